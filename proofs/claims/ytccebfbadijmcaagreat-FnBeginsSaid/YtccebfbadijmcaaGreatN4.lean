/-
  Sizes of the program's data.
-/
import Derived.Test.YtccebfbadijmcaaGreatN3
namespace Go.D


end Go.D


/-
  Which notes fit those ahead of them.
-/
namespace Go.D

def cnt (p : G.Note → Bool) (l : List G.Note) : Nat := (l.filter fun m => noteOk m && p m).length
def anyP (p : G.Note → Bool) (l : List G.Note) : Bool := l.any fun m => noteOk m && p m
def pDial (n m : G.Note) : Bool := m.Kind == 1 && m.Cn == n.Cn
def pOwn (n m : G.Note) : Bool := m.Kind == 1 && m.Cn == n.Cn && m.Id == n.Id
def pCommit (n m : G.Note) : Bool := m.Kind == 2 && m.Id == n.Id && m.Cn == n.Cn && m.Sn == n.Sn
def pServed (n m : G.Note) : Bool := m.Kind == 4 && m.Cn == n.Cn
def pServe (n m : G.Note) : Bool := m.Kind == 4 && m.Id == n.Id && m.Cn == n.Cn && m.Sn == n.Sn && m.Key == n.Key
def pUp (n m : G.Note) : Bool := m.Kind == 3 && m.Cn == n.Cn
def pAsk (n m : G.Note) : Bool := m.Kind == 7 && m.Sn == n.Sn && m.Body == n.Body
def pSame (n m : G.Note) : Bool := m.Role == n.Role && m.Sn == n.Sn
def pSent (o n m : G.Note) : Bool := m.Kind == 5 && pSame o m && m.Epoch == n.Epoch && m.Seq == n.Seq && m.Body == n.Body
def pGot (o n m : G.Note) : Bool := m.Kind == 6 && pSame o m && m.Epoch == n.Epoch && m.Seq == n.Seq
def pLate (o n m : G.Note) : Bool := m.Kind == 6 && pSame o m && decide (m.Epoch > n.Epoch) && decide (isub .i64 n.Now m.Now > 5)
def pTurn (role epoch : Int) (n m : G.Note) : Bool := m.Kind == 10 && m.Role == role && m.Sn == n.Sn && m.Epoch == epoch
def pT2 (o n m : G.Note) : Bool := pTurn n.Role n.Epoch o m
def pT3 (o n m : G.Note) : Bool := pTurn 0 (isub .i64 n.Epoch 1) o m
def pT4 (o n m : G.Note) : Bool := pTurn 1 n.Epoch o m && m.Key == n.Key
def pSay (n m : G.Note) : Bool := m.Kind == 8 && m.Sn == n.Sn && m.Body == n.Body
def pMove (n m : G.Note) : Bool := m.Kind == 9 && m.Body == n.Body
def pAsked (n m : G.Note) : Bool := m.Kind == 7 && m.Body == n.Body
def good (n m : G.Note) : Bool := m.Sn == n.Sn && sameA m.A n.A && inR (isub .i64 n.Now m.Now) 0 6

noncomputable def twoO (p : G.Note → G.Note → Bool) (m n : G.Note) : Option Bool := pt (wt m ≤ LIM ∧ wt n ≤ LIM) (p n m)
noncomputable def threeO (p : G.Note → G.Note → G.Note → Bool) (m o n : G.Note) : Option Bool := pt (wt m ≤ LIM ∧ wt o ≤ LIM ∧ wt n ≤ LIM) (p o n m)
noncomputable def cntO (p : G.Note → G.Note → Bool) (l : List G.Note) (n : G.Note) : Option Int := pt (wt l ≤ LIM ∧ wt n ≤ LIM) (cnt (p n) l : Int)
noncomputable def cnt2O (p : G.Note → G.Note → G.Note → Bool) (l : List G.Note) (n : G.Note × G.Note) : Option Int := pt (wt l ≤ LIM ∧ wt n.1 ≤ LIM ∧ wt n.2 ≤ LIM) (cnt (p n.1 n.2) l : Int)
noncomputable def turnO (m : G.Note) (role epoch : Int) (n : G.Note) : Option Bool := pt (wt m ≤ LIM ∧ wt n ≤ LIM) (pTurn role epoch n m)

def serveFits (l : List G.Note) (n : G.Note) : Bool := cnt (pDial n) l == 1 && cnt (pOwn n) l == 1 && anyP (pCommit n) l && !anyP (pServed n) l
def gotFits (l : List G.Note) (n : G.Note) : Bool := anyP (pSent n n) l && !anyP (pGot n n) l && !anyP (pLate n n) l
def turnFits (l : List G.Note) (n : G.Note) : Bool := !anyP (pT2 n n) l && bif n.Role == 1 then n.Epoch == 1 || anyP (pT3 n n) l else anyP (pT4 n n) l
/-- The one that asked, and who said so behind it. -/
def saidAt (l : List G.Note) (n : G.Note) (i : Nat) : Bool := (l[i]?).any fun m => noteOk m && pAsked n m && good n m && anyP (pSay n) (l.drop (i + 1))
def moveFits (l : List G.Note) (n : G.Note) : Bool := cnt (pAsked n) l == 1 && anyN l.length (saidAt l n) && !anyP (pMove n) l
noncomputable def fitO (p : List G.Note → G.Note → Bool) (l : List G.Note) (n : G.Note) : Option Bool := pt (wt l ≤ LIM ∧ wt n ≤ LIM) (p l n)
def fitsB (l : List G.Note) (n : G.Note) : Bool :=
  bif n.Kind == 4 then serveFits l n else bif n.Kind == 3 then anyP (pServe n) l && !anyP (pUp n) l else bif n.Kind == 6 then gotFits l n else bif n.Kind == 10 then turnFits l n
  else bif n.Kind == 8 then anyP (pAsk n) l else bif n.Kind == 9 then moveFits l n else true
def fitsAt (l : List G.Note) (i : Nat) : Bool := (l[i]?).any fun n => noteOk n && (shown (l.take i) n.Sn || fitsB (l.take i) n)
def noteFits (l : List G.Note) (i : Int) : Bool := decide (0 ≤ i) && fitsAt l i.toNat
noncomputable def fitsO (l : List G.Note) (i : Int) : Option Bool := pt (wt l ≤ LIM) (noteFits l i)
def ideal (l : List G.Note) : Bool := !(anyN l.length fun i => !fitsAt l i)
noncomputable def idealO (l : List G.Note) : Option Bool := pt (wt l ≤ LIM) (ideal l)

end Go.D

/-
  What the functions compute, as the plain semantics says it.
-/
namespace Go.D

noncomputable def impl_serveFits_1.raw (a0 : G.Note) (a1 : G.Note) : Option Bool :=
  joinK (fun (y1 : Bool) =>
  some y1) fun k2 =>
  cond (a0.Kind == 1)
  (Option.bind (sameO a0.Cn a1.Cn) fun r3 =>
  k2 r3)
  (k2 false)

noncomputable def impl_serveFits_2.raw (a0 : G.Note) (a1 : G.Note) : Option Bool :=
  joinK (fun (y1 : Bool) =>
  some y1) fun k2 =>
  cond (a0.Kind == 1)
  (Option.bind (sameO a0.Cn a1.Cn) fun r3 =>
  cond (r3)
  (k2 (a0.Id == a1.Id))
  (k2 false))
  (k2 false)

noncomputable def impl_serveFits_3.raw (a0 : G.Note) (a1 : G.Note) : Option Bool :=
  joinK (fun (y1 : Bool) =>
  some y1) fun k2 =>
  cond (a0.Kind == 2)
  (cond (a0.Id == a1.Id)
  (Option.bind (sameO a0.Cn a1.Cn) fun r3 =>
  cond (r3)
  (Option.bind (sameO a0.Sn a1.Sn) fun r4 =>
  k2 r4)
  (k2 false))
  (k2 false))
  (k2 false)

noncomputable def impl_serveFits_4.raw (a0 : G.Note) (a1 : G.Note) : Option Bool :=
  joinK (fun (y1 : Bool) =>
  some y1) fun k2 =>
  cond (a0.Kind == 4)
  (Option.bind (sameO a0.Cn a1.Cn) fun r3 =>
  k2 r3)
  (k2 false)

noncomputable def impl_count_impl_serveFits_1.raw (a0 : List G.Note) (a1 : G.Note) : Option Int :=
  joinK (fun (y1 : Int) =>
  some y1) fun k2 =>
  loopK FU (fun (x3 : Int × Int) k4 =>
  cond (decide (x3.2 < (a0.length : Int)))
  (Option.bind (idxI a0 x3.2) fun e5 =>
  joinK (fun (y6 : Bool) =>
  joinK (fun (y9 : Int) =>
  k4 (y9, (iadd .i64 x3.2 1))) fun k10 =>
  cond (y6)
  (k10 (iadd .i64 x3.1 1))
  (k10 x3.1)) fun k7 =>
  cond ((noteOk e5))
  (Option.bind (twoO pDial e5 a1) fun r8 =>
  k7 r8)
  (k7 false))
  (k2 x3.1)) (0, 0)

noncomputable def impl_count_impl_serveFits_2.raw (a0 : List G.Note) (a1 : G.Note) : Option Int :=
  joinK (fun (y1 : Int) =>
  some y1) fun k2 =>
  loopK FU (fun (x3 : Int × Int) k4 =>
  cond (decide (x3.2 < (a0.length : Int)))
  (Option.bind (idxI a0 x3.2) fun e5 =>
  joinK (fun (y6 : Bool) =>
  joinK (fun (y9 : Int) =>
  k4 (y9, (iadd .i64 x3.2 1))) fun k10 =>
  cond (y6)
  (k10 (iadd .i64 x3.1 1))
  (k10 x3.1)) fun k7 =>
  cond ((noteOk e5))
  (Option.bind (twoO pOwn e5 a1) fun r8 =>
  k7 r8)
  (k7 false))
  (k2 x3.1)) (0, 0)

noncomputable def impl_count_impl_serveFits_3.raw (a0 : List G.Note) (a1 : G.Note) : Option Int :=
  joinK (fun (y1 : Int) =>
  some y1) fun k2 =>
  loopK FU (fun (x3 : Int × Int) k4 =>
  cond (decide (x3.2 < (a0.length : Int)))
  (Option.bind (idxI a0 x3.2) fun e5 =>
  joinK (fun (y6 : Bool) =>
  joinK (fun (y9 : Int) =>
  k4 (y9, (iadd .i64 x3.2 1))) fun k10 =>
  cond (y6)
  (k10 (iadd .i64 x3.1 1))
  (k10 x3.1)) fun k7 =>
  cond ((noteOk e5))
  (Option.bind (twoO pCommit e5 a1) fun r8 =>
  k7 r8)
  (k7 false))
  (k2 x3.1)) (0, 0)

noncomputable def impl_count_impl_serveFits_4.raw (a0 : List G.Note) (a1 : G.Note) : Option Int :=
  joinK (fun (y1 : Int) =>
  some y1) fun k2 =>
  loopK FU (fun (x3 : Int × Int) k4 =>
  cond (decide (x3.2 < (a0.length : Int)))
  (Option.bind (idxI a0 x3.2) fun e5 =>
  joinK (fun (y6 : Bool) =>
  joinK (fun (y9 : Int) =>
  k4 (y9, (iadd .i64 x3.2 1))) fun k10 =>
  cond (y6)
  (k10 (iadd .i64 x3.1 1))
  (k10 x3.1)) fun k7 =>
  cond ((noteOk e5))
  (Option.bind (twoO pServed e5 a1) fun r8 =>
  k7 r8)
  (k7 false))
  (k2 x3.1)) (0, 0)

noncomputable def impl_serveFits.raw (a0 : List G.Note) (a1 : G.Note) : Option Bool :=
  Option.bind (cntO pDial a0 a1) fun r1 =>
  Option.bind (cntO pOwn a0 a1) fun r2 =>
  Option.bind (cntO pCommit a0 a1) fun r3 =>
  Option.bind (cntO pServed a0 a1) fun r4 =>
  joinK (fun (y5 : Bool) =>
  some y5) fun k6 =>
  cond (r1 == 1)
  (cond (r2 == 1)
  (cond (decide (r3 > 0))
  (k6 (r4 == 0))
  (k6 false))
  (k6 false))
  (k6 false)

noncomputable def impl_Fits_1.raw (a0 : G.Note) (a1 : G.Note) : Option Bool :=
  joinK (fun (y1 : Bool) =>
  some y1) fun k2 =>
  cond (a0.Kind == 4)
  (cond (a0.Id == a1.Id)
  (Option.bind (sameO a0.Cn a1.Cn) fun r3 =>
  cond (r3)
  (Option.bind (sameO a0.Sn a1.Sn) fun r4 =>
  cond (r4)
  (Option.bind (sameO a0.Key a1.Key) fun r5 =>
  k2 r5)
  (k2 false))
  (k2 false))
  (k2 false))
  (k2 false)

noncomputable def impl_Fits_2.raw (a0 : G.Note) (a1 : G.Note) : Option Bool :=
  joinK (fun (y1 : Bool) =>
  some y1) fun k2 =>
  cond (a0.Kind == 3)
  (Option.bind (sameO a0.Cn a1.Cn) fun r3 =>
  k2 r3)
  (k2 false)

noncomputable def impl_gotFits_1.raw (a0 : G.Note) (a1 : G.Note) : Option Bool :=
  joinK (fun (y1 : Bool) =>
  some y1) fun k2 =>
  cond (a0.Role == a1.Role)
  (Option.bind (sameO a0.Sn a1.Sn) fun r3 =>
  k2 r3)
  (k2 false)

noncomputable def impl_gotFits_2.raw (a0 : G.Note) (a1 : G.Note) (a2 : G.Note) : Option Bool :=
  joinK (fun (y1 : Bool) =>
  some y1) fun k2 =>
  cond (a0.Kind == 5)
  (Option.bind (twoO pSame a0 a1) fun r3 =>
  cond (r3)
  (cond (a0.Epoch == a2.Epoch)
  (cond (a0.Seq == a2.Seq)
  (Option.bind (sameO a0.Body a2.Body) fun r4 =>
  k2 r4)
  (k2 false))
  (k2 false))
  (k2 false))
  (k2 false)

noncomputable def impl_gotFits_3.raw (a0 : G.Note) (a1 : G.Note) (a2 : G.Note) : Option Bool :=
  joinK (fun (y1 : Bool) =>
  some y1) fun k2 =>
  cond (a0.Kind == 6)
  (Option.bind (twoO pSame a0 a1) fun r3 =>
  cond (r3)
  (cond (a0.Epoch == a2.Epoch)
  (k2 (a0.Seq == a2.Seq))
  (k2 false))
  (k2 false))
  (k2 false)

noncomputable def impl_gotFits_4.raw (a0 : G.Note) (a1 : G.Note) (a2 : G.Note) : Option Bool :=
  joinK (fun (y1 : Bool) =>
  some y1) fun k2 =>
  cond (a0.Kind == 6)
  (Option.bind (twoO pSame a0 a1) fun r3 =>
  cond (r3)
  (cond (decide (a0.Epoch > a2.Epoch))
  (k2 (decide ((isub .i64 a2.Now a0.Now) > 5)))
  (k2 false))
  (k2 false))
  (k2 false)

noncomputable def impl_count_impl_gotFits_2.raw (a0 : List G.Note) (a1 : G.Note × G.Note) : Option Int :=
  joinK (fun (y1 : Int) =>
  some y1) fun k2 =>
  loopK FU (fun (x3 : Int × Int) k4 =>
  cond (decide (x3.2 < (a0.length : Int)))
  (Option.bind (idxI a0 x3.2) fun e5 =>
  joinK (fun (y6 : Bool) =>
  joinK (fun (y9 : Int) =>
  k4 (y9, (iadd .i64 x3.2 1))) fun k10 =>
  cond (y6)
  (k10 (iadd .i64 x3.1 1))
  (k10 x3.1)) fun k7 =>
  cond ((noteOk e5))
  (Option.bind (threeO pSent e5 a1.1 a1.2) fun r8 =>
  k7 r8)
  (k7 false))
  (k2 x3.1)) (0, 0)

noncomputable def impl_count_impl_gotFits_3.raw (a0 : List G.Note) (a1 : G.Note × G.Note) : Option Int :=
  joinK (fun (y1 : Int) =>
  some y1) fun k2 =>
  loopK FU (fun (x3 : Int × Int) k4 =>
  cond (decide (x3.2 < (a0.length : Int)))
  (Option.bind (idxI a0 x3.2) fun e5 =>
  joinK (fun (y6 : Bool) =>
  joinK (fun (y9 : Int) =>
  k4 (y9, (iadd .i64 x3.2 1))) fun k10 =>
  cond (y6)
  (k10 (iadd .i64 x3.1 1))
  (k10 x3.1)) fun k7 =>
  cond ((noteOk e5))
  (Option.bind (threeO pGot e5 a1.1 a1.2) fun r8 =>
  k7 r8)
  (k7 false))
  (k2 x3.1)) (0, 0)

noncomputable def impl_count_impl_gotFits_4.raw (a0 : List G.Note) (a1 : G.Note × G.Note) : Option Int :=
  joinK (fun (y1 : Int) =>
  some y1) fun k2 =>
  loopK FU (fun (x3 : Int × Int) k4 =>
  cond (decide (x3.2 < (a0.length : Int)))
  (Option.bind (idxI a0 x3.2) fun e5 =>
  joinK (fun (y6 : Bool) =>
  joinK (fun (y9 : Int) =>
  k4 (y9, (iadd .i64 x3.2 1))) fun k10 =>
  cond (y6)
  (k10 (iadd .i64 x3.1 1))
  (k10 x3.1)) fun k7 =>
  cond ((noteOk e5))
  (Option.bind (threeO pLate e5 a1.1 a1.2) fun r8 =>
  k7 r8)
  (k7 false))
  (k2 x3.1)) (0, 0)

noncomputable def impl_gotFits.raw (a0 : List G.Note) (a1 : G.Note) : Option Bool :=
  Option.bind (cnt2O pSent a0 (a1, a1)) fun r1 =>
  Option.bind (cnt2O pGot a0 (a1, a1)) fun r2 =>
  Option.bind (cnt2O pLate a0 (a1, a1)) fun r3 =>
  joinK (fun (y4 : Bool) =>
  some y4) fun k5 =>
  cond (decide (r1 > 0))
  (cond (r2 == 0)
  (k5 (r3 == 0))
  (k5 false))
  (k5 false)

noncomputable def impl_turnFits_1.raw (a0 : G.Note) (a1 : Int) (a2 : Int) (a3 : G.Note) : Option Bool :=
  joinK (fun (y1 : Bool) =>
  some y1) fun k2 =>
  cond (a0.Kind == 10)
  (cond (a0.Role == a1)
  (Option.bind (sameO a0.Sn a3.Sn) fun r3 =>
  cond (r3)
  (k2 (a0.Epoch == a2))
  (k2 false))
  (k2 false))
  (k2 false)

noncomputable def impl_turnFits_2.raw (a0 : G.Note) (a1 : G.Note) (a2 : G.Note) : Option Bool :=
  Option.bind (turnO a0 a2.Role a2.Epoch a1) fun r1 =>
  some r1

noncomputable def impl_turnFits_3.raw (a0 : G.Note) (a1 : G.Note) (a2 : G.Note) : Option Bool :=
  Option.bind (turnO a0 0 (isub .i64 a2.Epoch 1) a1) fun r1 =>
  some r1

noncomputable def impl_turnFits_4.raw (a0 : G.Note) (a1 : G.Note) (a2 : G.Note) : Option Bool :=
  joinK (fun (y1 : Bool) =>
  some y1) fun k2 =>
  Option.bind (turnO a0 1 a2.Epoch a1) fun r3 =>
  cond (r3)
  (Option.bind (sameO a0.Key a2.Key) fun r4 =>
  k2 r4)
  (k2 false)

noncomputable def impl_count_impl_turnFits_2.raw (a0 : List G.Note) (a1 : G.Note × G.Note) : Option Int :=
  joinK (fun (y1 : Int) =>
  some y1) fun k2 =>
  loopK FU (fun (x3 : Int × Int) k4 =>
  cond (decide (x3.2 < (a0.length : Int)))
  (Option.bind (idxI a0 x3.2) fun e5 =>
  joinK (fun (y6 : Bool) =>
  joinK (fun (y9 : Int) =>
  k4 (y9, (iadd .i64 x3.2 1))) fun k10 =>
  cond (y6)
  (k10 (iadd .i64 x3.1 1))
  (k10 x3.1)) fun k7 =>
  cond ((noteOk e5))
  (Option.bind (threeO pT2 e5 a1.1 a1.2) fun r8 =>
  k7 r8)
  (k7 false))
  (k2 x3.1)) (0, 0)

noncomputable def impl_count_impl_turnFits_3.raw (a0 : List G.Note) (a1 : G.Note × G.Note) : Option Int :=
  joinK (fun (y1 : Int) =>
  some y1) fun k2 =>
  loopK FU (fun (x3 : Int × Int) k4 =>
  cond (decide (x3.2 < (a0.length : Int)))
  (Option.bind (idxI a0 x3.2) fun e5 =>
  joinK (fun (y6 : Bool) =>
  joinK (fun (y9 : Int) =>
  k4 (y9, (iadd .i64 x3.2 1))) fun k10 =>
  cond (y6)
  (k10 (iadd .i64 x3.1 1))
  (k10 x3.1)) fun k7 =>
  cond ((noteOk e5))
  (Option.bind (threeO pT3 e5 a1.1 a1.2) fun r8 =>
  k7 r8)
  (k7 false))
  (k2 x3.1)) (0, 0)

noncomputable def impl_count_impl_turnFits_4.raw (a0 : List G.Note) (a1 : G.Note × G.Note) : Option Int :=
  joinK (fun (y1 : Int) =>
  some y1) fun k2 =>
  loopK FU (fun (x3 : Int × Int) k4 =>
  cond (decide (x3.2 < (a0.length : Int)))
  (Option.bind (idxI a0 x3.2) fun e5 =>
  joinK (fun (y6 : Bool) =>
  joinK (fun (y9 : Int) =>
  k4 (y9, (iadd .i64 x3.2 1))) fun k10 =>
  cond (y6)
  (k10 (iadd .i64 x3.1 1))
  (k10 x3.1)) fun k7 =>
  cond ((noteOk e5))
  (Option.bind (threeO pT4 e5 a1.1 a1.2) fun r8 =>
  k7 r8)
  (k7 false))
  (k2 x3.1)) (0, 0)

noncomputable def impl_turnFits.raw (a0 : List G.Note) (a1 : G.Note) : Option Bool :=
  Option.bind (cnt2O pT2 a0 (a1, a1)) fun r1 =>
  cond (a1.Role == 1)
  (Option.bind (cnt2O pT3 a0 (a1, a1)) fun r2 =>
  joinK (fun (y3 : Bool) =>
  some y3) fun k4 =>
  cond (r1 == 0)
  (cond (a1.Epoch == 1)
  (k4 true)
  (k4 (decide (r2 > 0))))
  (k4 false))
  (Option.bind (cnt2O pT4 a0 (a1, a1)) fun r5 =>
  joinK (fun (y6 : Bool) =>
  some y6) fun k7 =>
  cond (r1 == 0)
  (k7 (decide (r5 > 0)))
  (k7 false))

noncomputable def impl_Fits_3.raw (a0 : G.Note) (a1 : G.Note) : Option Bool :=
  joinK (fun (y1 : Bool) =>
  some y1) fun k2 =>
  cond (a0.Kind == 7)
  (Option.bind (sameO a0.Sn a1.Sn) fun r3 =>
  cond (r3)
  (Option.bind (sameO a0.Body a1.Body) fun r4 =>
  k2 r4)
  (k2 false))
  (k2 false)

noncomputable def impl_moveFits_1.raw (a0 : G.Note) (a1 : G.Note) : Option Bool :=
  joinK (fun (y1 : Bool) =>
  some y1) fun k2 =>
  cond (a0.Kind == 8)
  (Option.bind (sameO a0.Sn a1.Sn) fun r3 =>
  cond (r3)
  (Option.bind (sameO a0.Body a1.Body) fun r4 =>
  k2 r4)
  (k2 false))
  (k2 false)

noncomputable def impl_moveFits_2.raw (a0 : G.Note) (a1 : G.Note) : Option Bool :=
  joinK (fun (y1 : Bool) =>
  some y1) fun k2 =>
  cond (a0.Kind == 9)
  (Option.bind (sameO a0.Body a1.Body) fun r3 =>
  k2 r3)
  (k2 false)

noncomputable def impl_count_impl_moveFits_1.raw (a0 : List G.Note) (a1 : G.Note) : Option Int :=
  joinK (fun (y1 : Int) =>
  some y1) fun k2 =>
  loopK FU (fun (x3 : Int × Int) k4 =>
  cond (decide (x3.2 < (a0.length : Int)))
  (Option.bind (idxI a0 x3.2) fun e5 =>
  joinK (fun (y6 : Bool) =>
  joinK (fun (y9 : Int) =>
  k4 (y9, (iadd .i64 x3.2 1))) fun k10 =>
  cond (y6)
  (k10 (iadd .i64 x3.1 1))
  (k10 x3.1)) fun k7 =>
  cond ((noteOk e5))
  (Option.bind (twoO pSay e5 a1) fun r8 =>
  k7 r8)
  (k7 false))
  (k2 x3.1)) (0, 0)

noncomputable def impl_count_impl_moveFits_2.raw (a0 : List G.Note) (a1 : G.Note) : Option Int :=
  joinK (fun (y1 : Int) =>
  some y1) fun k2 =>
  loopK FU (fun (x3 : Int × Int) k4 =>
  cond (decide (x3.2 < (a0.length : Int)))
  (Option.bind (idxI a0 x3.2) fun e5 =>
  joinK (fun (y6 : Bool) =>
  joinK (fun (y9 : Int) =>
  k4 (y9, (iadd .i64 x3.2 1))) fun k10 =>
  cond (y6)
  (k10 (iadd .i64 x3.1 1))
  (k10 x3.1)) fun k7 =>
  cond ((noteOk e5))
  (Option.bind (twoO pMove e5 a1) fun r8 =>
  k7 r8)
  (k7 false))
  (k2 x3.1)) (0, 0)

noncomputable def impl_moveFits.raw (a0 : List G.Note) (a1 : G.Note) : Option Bool :=
  joinK (fun (y1 : Int × Int) =>
  cond (y1.1 != 1)
  (some false)
  (Option.bind (idxI a0 y1.2) fun e11 =>
  cond (decide (0 ≤ (iadd .i64 y1.2 1)) && decide ((iadd .i64 y1.2 1) ≤ (a0.length : Int)) && decide ((a0.length : Int) ≤ (a0.length : Int))) (let l12 : List G.Note := List.take (((a0.length : Int) - (iadd .i64 y1.2 1)).toNat) (List.drop ((iadd .i64 y1.2 1).toNat) a0)
  Option.bind (cntO pSay l12 a1) fun r13 =>
  Option.bind (cntO pMove a0 a1) fun r14 =>
  joinK (fun (y15 : Bool) =>
  some y15) fun k16 =>
  Option.bind (sameO e11.Sn a1.Sn) fun r17 =>
  cond (r17)
  (let x18 : Bool := cond (e11.A.Host == a1.A.Host) (cond (e11.A.Port == a1.A.Port) (true) false) false
  cond (x18)
  (let r19 : Bool := inR (isub .i64 a1.Now e11.Now) 0 6
  cond (r19)
  (cond (decide (r13 > 0))
  (k16 (r14 == 0))
  (k16 false))
  (k16 false))
  (k16 false))
  (k16 false)) none)) fun k2 =>
  loopK FU (fun (x3 : Int × Int × Int) k4 =>
  cond (decide (x3.2.2 < (a0.length : Int)))
  (Option.bind (idxI a0 x3.2.2) fun e5 =>
  joinK (fun (y6 : Bool) =>
  joinK (fun (y9 : Int × Int) =>
  k4 (y9.1, y9.2, (iadd .i64 x3.2.2 1))) fun k10 =>
  cond (y6)
  (k10 ((iadd .i64 x3.1 1), x3.2.2))
  (k10 (x3.1, x3.2.1))) fun k7 =>
  cond ((noteOk e5))
  (cond (e5.Kind == 7)
  (Option.bind (sameO e5.Body a1.Body) fun r8 =>
  k7 r8)
  (k7 false))
  (k7 false))
  (k2 (x3.1, x3.2.1))) (0, 0, 0)

noncomputable def impl_count_impl_Fits_1.raw (a0 : List G.Note) (a1 : G.Note) : Option Int :=
  joinK (fun (y1 : Int) =>
  some y1) fun k2 =>
  loopK FU (fun (x3 : Int × Int) k4 =>
  cond (decide (x3.2 < (a0.length : Int)))
  (Option.bind (idxI a0 x3.2) fun e5 =>
  joinK (fun (y6 : Bool) =>
  joinK (fun (y9 : Int) =>
  k4 (y9, (iadd .i64 x3.2 1))) fun k10 =>
  cond (y6)
  (k10 (iadd .i64 x3.1 1))
  (k10 x3.1)) fun k7 =>
  cond ((noteOk e5))
  (Option.bind (twoO pServe e5 a1) fun r8 =>
  k7 r8)
  (k7 false))
  (k2 x3.1)) (0, 0)

noncomputable def impl_count_impl_Fits_2.raw (a0 : List G.Note) (a1 : G.Note) : Option Int :=
  joinK (fun (y1 : Int) =>
  some y1) fun k2 =>
  loopK FU (fun (x3 : Int × Int) k4 =>
  cond (decide (x3.2 < (a0.length : Int)))
  (Option.bind (idxI a0 x3.2) fun e5 =>
  joinK (fun (y6 : Bool) =>
  joinK (fun (y9 : Int) =>
  k4 (y9, (iadd .i64 x3.2 1))) fun k10 =>
  cond (y6)
  (k10 (iadd .i64 x3.1 1))
  (k10 x3.1)) fun k7 =>
  cond ((noteOk e5))
  (Option.bind (twoO pUp e5 a1) fun r8 =>
  k7 r8)
  (k7 false))
  (k2 x3.1)) (0, 0)

noncomputable def impl_count_impl_Fits_3.raw (a0 : List G.Note) (a1 : G.Note) : Option Int :=
  joinK (fun (y1 : Int) =>
  some y1) fun k2 =>
  loopK FU (fun (x3 : Int × Int) k4 =>
  cond (decide (x3.2 < (a0.length : Int)))
  (Option.bind (idxI a0 x3.2) fun e5 =>
  joinK (fun (y6 : Bool) =>
  joinK (fun (y9 : Int) =>
  k4 (y9, (iadd .i64 x3.2 1))) fun k10 =>
  cond (y6)
  (k10 (iadd .i64 x3.1 1))
  (k10 x3.1)) fun k7 =>
  cond ((noteOk e5))
  (Option.bind (twoO pAsk e5 a1) fun r8 =>
  k7 r8)
  (k7 false))
  (k2 x3.1)) (0, 0)

noncomputable def impl_Fits.raw (a0 : List G.Note) (a1 : Int) : Option Bool :=
  joinK (fun (y1 : Bool) =>
  cond (y1)
  (some false)
  (Option.bind (idxI a0 a1) fun e4 =>
  cond (decide (0 ≤ (0 : Int)) && decide ((0 : Int) ≤ a1) && decide (a1 ≤ (a0.length : Int))) (let l5 : List G.Note := List.take ((a1 - 0).toNat) (List.drop 0 a0)
  Option.bind (shownO l5 e4.Sn) fun r6 =>
  cond (r6)
  (some true)
  (cond (e4.Kind == 4)
  (Option.bind (fitO serveFits l5 e4) fun r7 =>
  some r7)
  (cond (e4.Kind == 3)
  (Option.bind (cntO pServe l5 e4) fun r8 =>
  Option.bind (cntO pUp l5 e4) fun r9 =>
  joinK (fun (y10 : Bool) =>
  some y10) fun k11 =>
  cond (decide (r8 > 0))
  (k11 (r9 == 0))
  (k11 false))
  (cond (e4.Kind == 6)
  (Option.bind (fitO gotFits l5 e4) fun r12 =>
  some r12)
  (cond (e4.Kind == 10)
  (Option.bind (fitO turnFits l5 e4) fun r13 =>
  some r13)
  (cond (e4.Kind == 8)
  (Option.bind (cntO pAsk l5 e4) fun r14 =>
  some (decide (r14 > 0)))
  (cond (e4.Kind == 9)
  (Option.bind (fitO moveFits l5 e4) fun r15 =>
  some r15)
  (some true)))))))) none)) fun k2 =>
  cond (decide (a1 < 0))
  (k2 true)
  (cond (decide (a1 ≥ (a0.length : Int)))
  (k2 true)
  (Option.bind (idxI a0 a1) fun e3 =>
  k2 (!(noteOk e3))))

noncomputable def impl_Ideal.raw (a0 : List G.Note) : Option Bool :=
  joinK (fun (y1 : Unit) =>
  some true) fun k2 =>
  loopK FU (fun (x3 : Int) k4 =>
  cond (decide (x3 < (a0.length : Int)))
  (Option.bind (fitsO a0 x3) fun r5 =>
  cond (!r5)
  (some false)
  (k4 (iadd .i64 x3 1)))
  (k2 ())) 0

end Go.D

/-
  What the laws' own functions compute.
-/
namespace Go.D


end Go.D

/-
  Which notes fit those ahead of them: each function computes what is said of it.
-/
namespace Go.D

/-! ### Counting -/

theorem cnt_cons (p : G.Note → Bool) (x : G.Note) (l : List G.Note) : cnt p (x :: l) = (bif noteOk x && p x then 1 else 0) + cnt p l := by
  simp only [cnt, List.filter_cons]
  cases noteOk x && p x <;> simp [Nat.add_comm]
theorem cnt_nil (p : G.Note → Bool) : cnt p [] = 0 := rfl
theorem cnt_le (p : G.Note → Bool) (l : List G.Note) : cnt p l ≤ l.length := List.length_filter_le _ _
theorem anyP_cons (p : G.Note → Bool) (x : G.Note) (l : List G.Note) : anyP p (x :: l) = ((noteOk x && p x) || anyP p l) := rfl
theorem cnt_any (p : G.Note → Bool) : ∀ l, decide (0 < cnt p l) = anyP p l
  | [] => rfl
  | x :: l => by
    rw [cnt_cons, anyP_cons, ← cnt_any p l]
    cases noteOk x && p x
    · simp
    · simp; omega
theorem cnt_pos (p : G.Note → Bool) (l : List G.Note) : decide ((cnt p l : Int) > 0) = anyP p l := by
  rw [← cnt_any, decide_eq_decide]; omega
theorem cnt_zero (p : G.Note → Bool) (l : List G.Note) : ((cnt p l : Int) == 0) = !anyP p l := by
  rw [← cnt_any]
  by_cases h : cnt p l = 0
  · simp [h]
  · rw [decide_eq_true (by omega : 0 < cnt p l), beq_false_of_ne (by omega)]; rfl
theorem cnt_one (p : G.Note → Bool) (l : List G.Note) : ((cnt p l : Int) == 1) = (cnt p l == 1) := by
  rw [Bool.eq_iff_iff, beq_iff_eq, beq_iff_eq]; omega

theorem count_raw (p : G.Note → Bool) (l : List G.Note) (h : wt l ≤ LIM) {q : G.Note → Option Bool} (hq : ∀ m, wt m ≤ LIM → q m = some (p m)) :
    (joinK (fun (y1 : Int) => some y1) fun k2 => loopK FU (fun (x3 : Int × Int) k4 => cond (decide (x3.2 < (l.length : Int))) (Option.bind (idxI l x3.2) fun e5 =>
      joinK (fun (y6 : Bool) => joinK (fun (y9 : Int) => k4 (y9, (iadd .i64 x3.2 1))) fun k10 => cond (y6) (k10 (iadd .i64 x3.1 1)) (k10 x3.1)) fun k7 =>
      cond ((noteOk e5)) (Option.bind (q e5) fun r8 => k7 r8) (k7 false)) (k2 x3.1)) (0, 0)) = some (cnt p l : Int) := by
  have hl := len_lim h
  simp only [joinK]
  have key := loop_FU (f := fun (x3 : Int × Int) k4 => cond (decide (x3.2 < (l.length : Int))) (Option.bind (idxI l x3.2) fun e5 =>
      cond ((noteOk e5)) (Option.bind (q e5) fun r8 => cond r8 (k4 ((iadd .i64 x3.1 1), (iadd .i64 x3.2 1))) (k4 (x3.1, (iadd .i64 x3.2 1)))) (cond false (k4 ((iadd .i64 x3.1 1), (iadd .i64 x3.2 1))) (k4 (x3.1, (iadd .i64 x3.2 1))))) (some x3.1))
    (g := fun x : Int × Int => some (x.1 + (cnt p (l.drop x.2.toNat) : Int))) (fun x => 0 ≤ x.1 ∧ x.1 ≤ x.2 ∧ x.2 ≤ l.length) (fun x => l.length - x.2.toNat) (fun x hx k hk => by
    obtain ⟨s, i⟩ := x
    obtain ⟨h0, h1, h2⟩ := hx
    simp only at h0 h1 h2
    obtain ⟨j, rfl⟩ := Int.eq_ofNat_of_zero_le (Int.le_trans h0 h1)
    obtain ⟨c, rfl⟩ := Int.eq_ofNat_of_zero_le h0
    simp only [Int.toNat_natCast]
    by_cases hj : j < l.length
    · have hm := wt_get hj
      rw [drop_next l hj, cnt_cons]
      simp only [lt_len hj, cond_true, idxI_get hj, bind_some', hq _ (show wt l[j] ≤ LIM by omega)]
      have e1 : iadd .i64 (j : Int) 1 = ((j + 1 : Nat) : Int) := iadd_nat j (by omega)
      have e2 : iadd .i64 (c : Int) 1 = ((c + 1 : Nat) : Int) := iadd_nat c (by omega)
      rw [e1, e2]
      have k0 := hk ((c : Int), ((j + 1 : Nat) : Int)) ⟨by show (0 : Int) ≤ (c : Int); omega, by show (c : Int) ≤ ((j + 1 : Nat) : Int); omega, by show ((j + 1 : Nat) : Int) ≤ l.length; omega⟩ (by simp only [Int.toNat_natCast]; omega)
      have k1 := hk (((c + 1 : Nat) : Int), ((j + 1 : Nat) : Int)) ⟨by show (0 : Int) ≤ ((c + 1 : Nat) : Int); omega, by show ((c + 1 : Nat) : Int) ≤ ((j + 1 : Nat) : Int); omega, by show ((j + 1 : Nat) : Int) ≤ l.length; omega⟩ (by simp only [Int.toNat_natCast]; omega)
      rw [k0, k1]
      simp only [Int.toNat_natCast]
      cases noteOk l[j] <;> cases p l[j] <;> simp <;> omega
    · have : j = l.length := by omega
      subst this
      simp only [lt_end, cond_false, List.drop_length, cnt_nil]
      simp) (x := (0, 0)) ⟨Int.le_refl _, Int.le_refl _, by show (0 : Int) ≤ l.length; omega⟩ (by show l.length - Int.toNat 0 < 2 ^ 64; unfold maxLen at hl; simp; omega)
  refine Eq.trans key ?_
  simp

/-! ### What is asked of one note -/

theorem note_parts {m : G.Note} (h : wt m ≤ LIM) : wt m.Cn ≤ LIM ∧ wt m.Sn ≤ LIM ∧ wt m.Body ≤ LIM ∧ wt m.Key ≤ LIM := by
  rw [wt_Note] at h; omega
theorem impl_serveFits_1.ok {x : TyTup [.v .Note, .pt .Note]} (_ : bdTup [.v .Note, .pt .Note] x) {r : Bool} : twoO pDial x.1 x.2 = some r → impl_serveFits_1.raw x.1 x.2 = some r := pt_ok fun h => by
  have h1 := note_parts h.1
  have h2 := note_parts h.2
  simp (disch := omega) only [impl_serveFits_1.raw, joinK, sameO_bind]
  simp only [cond_some, Bool.cond_false_right, pDial, Bool.and_assoc]
theorem impl_count_impl_serveFits_1.ok {g : Nat} {x : TyTup [.sl .Note, .c1 g .Note]} (_ : bdTup [.sl .Note, .c1 g .Note] x) {r : Int} : cntO pDial x.1 x.2 = some r → impl_count_impl_serveFits_1.raw x.1 x.2 = some r := pt_ok fun h => count_raw (pDial x.2) x.1 h.1 fun m hm => pt_some ⟨hm, h.2⟩
theorem impl_serveFits_2.ok {x : TyTup [.v .Note, .pt .Note]} (_ : bdTup [.v .Note, .pt .Note] x) {r : Bool} : twoO pOwn x.1 x.2 = some r → impl_serveFits_2.raw x.1 x.2 = some r := pt_ok fun h => by
  have h1 := note_parts h.1
  have h2 := note_parts h.2
  simp (disch := omega) only [impl_serveFits_2.raw, joinK, sameO_bind]
  simp only [cond_some, Bool.cond_false_right, pOwn, Bool.and_assoc]
theorem impl_count_impl_serveFits_2.ok {g : Nat} {x : TyTup [.sl .Note, .c1 g .Note]} (_ : bdTup [.sl .Note, .c1 g .Note] x) {r : Int} : cntO pOwn x.1 x.2 = some r → impl_count_impl_serveFits_2.raw x.1 x.2 = some r := pt_ok fun h => count_raw (pOwn x.2) x.1 h.1 fun m hm => pt_some ⟨hm, h.2⟩
theorem impl_serveFits_3.ok {x : TyTup [.v .Note, .pt .Note]} (_ : bdTup [.v .Note, .pt .Note] x) {r : Bool} : twoO pCommit x.1 x.2 = some r → impl_serveFits_3.raw x.1 x.2 = some r := pt_ok fun h => by
  have h1 := note_parts h.1
  have h2 := note_parts h.2
  simp (disch := omega) only [impl_serveFits_3.raw, joinK, sameO_bind]
  simp only [cond_some, Bool.cond_false_right, pCommit, Bool.and_assoc]
theorem impl_count_impl_serveFits_3.ok {g : Nat} {x : TyTup [.sl .Note, .c1 g .Note]} (_ : bdTup [.sl .Note, .c1 g .Note] x) {r : Int} : cntO pCommit x.1 x.2 = some r → impl_count_impl_serveFits_3.raw x.1 x.2 = some r := pt_ok fun h => count_raw (pCommit x.2) x.1 h.1 fun m hm => pt_some ⟨hm, h.2⟩
theorem impl_serveFits_4.ok {x : TyTup [.v .Note, .pt .Note]} (_ : bdTup [.v .Note, .pt .Note] x) {r : Bool} : twoO pServed x.1 x.2 = some r → impl_serveFits_4.raw x.1 x.2 = some r := pt_ok fun h => by
  have h1 := note_parts h.1
  have h2 := note_parts h.2
  simp (disch := omega) only [impl_serveFits_4.raw, joinK, sameO_bind]
  simp only [cond_some, Bool.cond_false_right, pServed, Bool.and_assoc]
theorem impl_count_impl_serveFits_4.ok {g : Nat} {x : TyTup [.sl .Note, .c1 g .Note]} (_ : bdTup [.sl .Note, .c1 g .Note] x) {r : Int} : cntO pServed x.1 x.2 = some r → impl_count_impl_serveFits_4.raw x.1 x.2 = some r := pt_ok fun h => count_raw (pServed x.2) x.1 h.1 fun m hm => pt_some ⟨hm, h.2⟩
theorem impl_Fits_1.ok {x : TyTup [.v .Note, .pt .Note]} (_ : bdTup [.v .Note, .pt .Note] x) {r : Bool} : twoO pServe x.1 x.2 = some r → impl_Fits_1.raw x.1 x.2 = some r := pt_ok fun h => by
  have h1 := note_parts h.1
  have h2 := note_parts h.2
  simp (disch := omega) only [impl_Fits_1.raw, joinK, sameO_bind]
  simp only [cond_some, Bool.cond_false_right, pServe, Bool.and_assoc]
theorem impl_count_impl_Fits_1.ok {g : Nat} {x : TyTup [.sl .Note, .c1 g .Note]} (_ : bdTup [.sl .Note, .c1 g .Note] x) {r : Int} : cntO pServe x.1 x.2 = some r → impl_count_impl_Fits_1.raw x.1 x.2 = some r := pt_ok fun h => count_raw (pServe x.2) x.1 h.1 fun m hm => pt_some ⟨hm, h.2⟩
theorem impl_Fits_2.ok {x : TyTup [.v .Note, .pt .Note]} (_ : bdTup [.v .Note, .pt .Note] x) {r : Bool} : twoO pUp x.1 x.2 = some r → impl_Fits_2.raw x.1 x.2 = some r := pt_ok fun h => by
  have h1 := note_parts h.1
  have h2 := note_parts h.2
  simp (disch := omega) only [impl_Fits_2.raw, joinK, sameO_bind]
  simp only [cond_some, Bool.cond_false_right, pUp, Bool.and_assoc]
theorem impl_count_impl_Fits_2.ok {g : Nat} {x : TyTup [.sl .Note, .c1 g .Note]} (_ : bdTup [.sl .Note, .c1 g .Note] x) {r : Int} : cntO pUp x.1 x.2 = some r → impl_count_impl_Fits_2.raw x.1 x.2 = some r := pt_ok fun h => count_raw (pUp x.2) x.1 h.1 fun m hm => pt_some ⟨hm, h.2⟩
theorem impl_Fits_3.ok {x : TyTup [.v .Note, .pt .Note]} (_ : bdTup [.v .Note, .pt .Note] x) {r : Bool} : twoO pAsk x.1 x.2 = some r → impl_Fits_3.raw x.1 x.2 = some r := pt_ok fun h => by
  have h1 := note_parts h.1
  have h2 := note_parts h.2
  simp (disch := omega) only [impl_Fits_3.raw, joinK, sameO_bind]
  simp only [cond_some, Bool.cond_false_right, pAsk, Bool.and_assoc]
theorem impl_count_impl_Fits_3.ok {g : Nat} {x : TyTup [.sl .Note, .c1 g .Note]} (_ : bdTup [.sl .Note, .c1 g .Note] x) {r : Int} : cntO pAsk x.1 x.2 = some r → impl_count_impl_Fits_3.raw x.1 x.2 = some r := pt_ok fun h => count_raw (pAsk x.2) x.1 h.1 fun m hm => pt_some ⟨hm, h.2⟩
theorem impl_moveFits_1.ok {x : TyTup [.v .Note, .pt .Note]} (_ : bdTup [.v .Note, .pt .Note] x) {r : Bool} : twoO pSay x.1 x.2 = some r → impl_moveFits_1.raw x.1 x.2 = some r := pt_ok fun h => by
  have h1 := note_parts h.1
  have h2 := note_parts h.2
  simp (disch := omega) only [impl_moveFits_1.raw, joinK, sameO_bind]
  simp only [cond_some, Bool.cond_false_right, pSay, Bool.and_assoc]
theorem impl_count_impl_moveFits_1.ok {g : Nat} {x : TyTup [.sl .Note, .c1 g .Note]} (_ : bdTup [.sl .Note, .c1 g .Note] x) {r : Int} : cntO pSay x.1 x.2 = some r → impl_count_impl_moveFits_1.raw x.1 x.2 = some r := pt_ok fun h => count_raw (pSay x.2) x.1 h.1 fun m hm => pt_some ⟨hm, h.2⟩
theorem impl_moveFits_2.ok {x : TyTup [.v .Note, .pt .Note]} (_ : bdTup [.v .Note, .pt .Note] x) {r : Bool} : twoO pMove x.1 x.2 = some r → impl_moveFits_2.raw x.1 x.2 = some r := pt_ok fun h => by
  have h1 := note_parts h.1
  have h2 := note_parts h.2
  simp (disch := omega) only [impl_moveFits_2.raw, joinK, sameO_bind]
  simp only [cond_some, Bool.cond_false_right, pMove, Bool.and_assoc]
theorem impl_count_impl_moveFits_2.ok {g : Nat} {x : TyTup [.sl .Note, .c1 g .Note]} (_ : bdTup [.sl .Note, .c1 g .Note] x) {r : Int} : cntO pMove x.1 x.2 = some r → impl_count_impl_moveFits_2.raw x.1 x.2 = some r := pt_ok fun h => count_raw (pMove x.2) x.1 h.1 fun m hm => pt_some ⟨hm, h.2⟩
theorem impl_gotFits_1.ok {x : TyTup [.v .Note, .pt .Note]} (_ : bdTup [.v .Note, .pt .Note] x) {r : Bool} : twoO pSame x.1 x.2 = some r → impl_gotFits_1.raw x.1 x.2 = some r := pt_ok fun h => by
  have h1 := note_parts h.1
  have h2 := note_parts h.2
  simp (disch := omega) only [impl_gotFits_1.raw, joinK, sameO_bind]
  simp only [cond_some, Bool.cond_false_right, pSame, Bool.and_assoc]
theorem impl_turnFits_1.ok {x : TyTup [.v .Note, .v .int, .v .int, .pt .Note]} (_ : bdTup [.v .Note, .v .int, .v .int, .pt .Note] x) {r : Bool} : turnO x.1 x.2.1 x.2.2.1 x.2.2.2 = some r → impl_turnFits_1.raw x.1 x.2.1 x.2.2.1 x.2.2.2 = some r := pt_ok fun h => by
  have h1 := note_parts h.1
  have h2 := note_parts h.2
  simp (disch := omega) only [impl_turnFits_1.raw, joinK, sameO_bind]
  simp only [cond_some, Bool.cond_false_right, pTurn, Bool.and_assoc]
theorem impl_gotFits_2.ok {g : Nat} {x : TyTup [.v .Note, .p1 g .Note, .pt .Note]} (_ : bdTup [.v .Note, .p1 g .Note, .pt .Note] x) {r : Bool} : threeO pSent x.1 x.2.1 x.2.2 = some r → impl_gotFits_2.raw x.1 x.2.1 x.2.2 = some r := pt_ok fun h => by
  have h1 := note_parts h.1
  have h2 := note_parts h.2.1
  have h3 := note_parts h.2.2
  simp only [impl_gotFits_2.raw, joinK, twoO, turnO, pt_bind (p := wt x.1 ≤ LIM ∧ wt x.2.1 ≤ LIM) ⟨h.1, h.2.1⟩]
  try simp (disch := omega) only [sameO_bind]
  simp only [cond_some, Bool.cond_false_right, pSent, Bool.and_assoc]
theorem impl_count_impl_gotFits_2.ok {g h : Nat} {x : TyTup [.sl .Note, .c2 g h .Note]} (_ : bdTup [.sl .Note, .c2 g h .Note] x) {r : Int} : cnt2O pSent x.1 x.2 = some r → impl_count_impl_gotFits_2.raw x.1 x.2 = some r := pt_ok fun h => count_raw (pSent x.2.1 x.2.2) x.1 h.1 fun m hm => pt_some ⟨hm, h.2⟩
theorem impl_gotFits_3.ok {g : Nat} {x : TyTup [.v .Note, .p1 g .Note, .pt .Note]} (_ : bdTup [.v .Note, .p1 g .Note, .pt .Note] x) {r : Bool} : threeO pGot x.1 x.2.1 x.2.2 = some r → impl_gotFits_3.raw x.1 x.2.1 x.2.2 = some r := pt_ok fun h => by
  have h1 := note_parts h.1
  have h2 := note_parts h.2.1
  have h3 := note_parts h.2.2
  simp only [impl_gotFits_3.raw, joinK, twoO, turnO, pt_bind (p := wt x.1 ≤ LIM ∧ wt x.2.1 ≤ LIM) ⟨h.1, h.2.1⟩]
  try simp (disch := omega) only [sameO_bind]
  simp only [cond_some, Bool.cond_false_right, pGot, Bool.and_assoc]
theorem impl_count_impl_gotFits_3.ok {g h : Nat} {x : TyTup [.sl .Note, .c2 g h .Note]} (_ : bdTup [.sl .Note, .c2 g h .Note] x) {r : Int} : cnt2O pGot x.1 x.2 = some r → impl_count_impl_gotFits_3.raw x.1 x.2 = some r := pt_ok fun h => count_raw (pGot x.2.1 x.2.2) x.1 h.1 fun m hm => pt_some ⟨hm, h.2⟩
theorem impl_gotFits_4.ok {g : Nat} {x : TyTup [.v .Note, .p1 g .Note, .pt .Note]} (_ : bdTup [.v .Note, .p1 g .Note, .pt .Note] x) {r : Bool} : threeO pLate x.1 x.2.1 x.2.2 = some r → impl_gotFits_4.raw x.1 x.2.1 x.2.2 = some r := pt_ok fun h => by
  have h1 := note_parts h.1
  have h2 := note_parts h.2.1
  have h3 := note_parts h.2.2
  simp only [impl_gotFits_4.raw, joinK, twoO, turnO, pt_bind (p := wt x.1 ≤ LIM ∧ wt x.2.1 ≤ LIM) ⟨h.1, h.2.1⟩]
  try simp (disch := omega) only [sameO_bind]
  simp only [cond_some, Bool.cond_false_right, pLate, Bool.and_assoc]
theorem impl_count_impl_gotFits_4.ok {g h : Nat} {x : TyTup [.sl .Note, .c2 g h .Note]} (_ : bdTup [.sl .Note, .c2 g h .Note] x) {r : Int} : cnt2O pLate x.1 x.2 = some r → impl_count_impl_gotFits_4.raw x.1 x.2 = some r := pt_ok fun h => count_raw (pLate x.2.1 x.2.2) x.1 h.1 fun m hm => pt_some ⟨hm, h.2⟩
theorem impl_turnFits_2.ok {g : Nat} {x : TyTup [.v .Note, .p1 g .Note, .pt .Note]} (_ : bdTup [.v .Note, .p1 g .Note, .pt .Note] x) {r : Bool} : threeO pT2 x.1 x.2.1 x.2.2 = some r → impl_turnFits_2.raw x.1 x.2.1 x.2.2 = some r := pt_ok fun h => by
  have h1 := note_parts h.1
  have h2 := note_parts h.2.1
  have h3 := note_parts h.2.2
  simp only [impl_turnFits_2.raw, joinK, twoO, turnO, pt_bind (p := wt x.1 ≤ LIM ∧ wt x.2.1 ≤ LIM) ⟨h.1, h.2.1⟩]
  try simp (disch := omega) only [sameO_bind]
  simp only [cond_some, Bool.cond_false_right, pT2, Bool.and_assoc]
theorem impl_count_impl_turnFits_2.ok {g h : Nat} {x : TyTup [.sl .Note, .c2 g h .Note]} (_ : bdTup [.sl .Note, .c2 g h .Note] x) {r : Int} : cnt2O pT2 x.1 x.2 = some r → impl_count_impl_turnFits_2.raw x.1 x.2 = some r := pt_ok fun h => count_raw (pT2 x.2.1 x.2.2) x.1 h.1 fun m hm => pt_some ⟨hm, h.2⟩
theorem impl_turnFits_3.ok {g : Nat} {x : TyTup [.v .Note, .p1 g .Note, .pt .Note]} (_ : bdTup [.v .Note, .p1 g .Note, .pt .Note] x) {r : Bool} : threeO pT3 x.1 x.2.1 x.2.2 = some r → impl_turnFits_3.raw x.1 x.2.1 x.2.2 = some r := pt_ok fun h => by
  have h1 := note_parts h.1
  have h2 := note_parts h.2.1
  have h3 := note_parts h.2.2
  simp only [impl_turnFits_3.raw, joinK, twoO, turnO, pt_bind (p := wt x.1 ≤ LIM ∧ wt x.2.1 ≤ LIM) ⟨h.1, h.2.1⟩]
  try simp (disch := omega) only [sameO_bind]
  simp only [cond_some, Bool.cond_false_right, pT3, Bool.and_assoc]
theorem impl_count_impl_turnFits_3.ok {g h : Nat} {x : TyTup [.sl .Note, .c2 g h .Note]} (_ : bdTup [.sl .Note, .c2 g h .Note] x) {r : Int} : cnt2O pT3 x.1 x.2 = some r → impl_count_impl_turnFits_3.raw x.1 x.2 = some r := pt_ok fun h => count_raw (pT3 x.2.1 x.2.2) x.1 h.1 fun m hm => pt_some ⟨hm, h.2⟩
theorem impl_turnFits_4.ok {g : Nat} {x : TyTup [.v .Note, .p1 g .Note, .pt .Note]} (_ : bdTup [.v .Note, .p1 g .Note, .pt .Note] x) {r : Bool} : threeO pT4 x.1 x.2.1 x.2.2 = some r → impl_turnFits_4.raw x.1 x.2.1 x.2.2 = some r := pt_ok fun h => by
  have h1 := note_parts h.1
  have h2 := note_parts h.2.1
  have h3 := note_parts h.2.2
  simp only [impl_turnFits_4.raw, joinK, twoO, turnO, pt_bind (p := wt x.1 ≤ LIM ∧ wt x.2.1 ≤ LIM) ⟨h.1, h.2.1⟩]
  try simp (disch := omega) only [sameO_bind]
  simp only [cond_some, Bool.cond_false_right, pT4, Bool.and_assoc]
theorem impl_count_impl_turnFits_4.ok {g h : Nat} {x : TyTup [.sl .Note, .c2 g h .Note]} (_ : bdTup [.sl .Note, .c2 g h .Note] x) {r : Int} : cnt2O pT4 x.1 x.2 = some r → impl_count_impl_turnFits_4.raw x.1 x.2 = some r := pt_ok fun h => count_raw (pT4 x.2.1 x.2.2) x.1 h.1 fun m hm => pt_some ⟨hm, h.2⟩

/-! ### What is asked of all -/

theorem impl_serveFits.ok {x : TyTup [.sl .Note, .v .Note]} (_ : bdTup [.sl .Note, .v .Note] x) {r : Bool} : fitO serveFits x.1 x.2 = some r → impl_serveFits.raw x.1 x.2 = some r := pt_ok fun h => by
  simp only [impl_serveFits.raw, joinK, cntO, pt_bind h, cnt_pos, cnt_zero, cnt_one, cond_some, Bool.cond_false_right, serveFits, Bool.and_assoc]
theorem impl_gotFits.ok {x : TyTup [.sl .Note, .v .Note]} (_ : bdTup [.sl .Note, .v .Note] x) {r : Bool} : fitO gotFits x.1 x.2 = some r → impl_gotFits.raw x.1 x.2 = some r := pt_ok fun h => by
  simp only [impl_gotFits.raw, joinK, cnt2O, pt_bind (p := wt x.1 ≤ LIM ∧ wt x.2 ≤ LIM ∧ wt x.2 ≤ LIM) ⟨h.1, h.2, h.2⟩, cnt_pos, cnt_zero, cond_some, Bool.cond_false_right, gotFits, Bool.and_assoc]
theorem impl_turnFits.ok {x : TyTup [.sl .Note, .v .Note]} (_ : bdTup [.sl .Note, .v .Note] x) {r : Bool} : fitO turnFits x.1 x.2 = some r → impl_turnFits.raw x.1 x.2 = some r := pt_ok fun h => by
  simp only [impl_turnFits.raw, joinK, cnt2O, pt_bind (p := wt x.1 ≤ LIM ∧ wt x.2 ≤ LIM ∧ wt x.2 ≤ LIM) ⟨h.1, h.2, h.2⟩, cnt_pos, cnt_zero, cond_some, Bool.cond_false_right, Bool.cond_true_left, turnFits]
  cases (x.2 : G.Note).Role == 1 <;> rfl


/-- The last index below n. -/
def lastN (p : Nat → Bool) : Nat → Nat
  | 0 => 0
  | i + 1 => bif p i then i else lastN p i
theorem lastN_eq {p : Nat → Bool} {t : Nat} (hp : p t = true) : ∀ {n : Nat}, t < n → (∀ j, t < j → j < n → p j = false) → lastN p n = t
  | 0, h, _ => by omega
  | n + 1, h, hf => by
    rw [lastN]
    by_cases e : t = n
    · subst e; rw [hp]; rfl
    · rw [hf n (by omega) (by omega)]
      exact lastN_eq hp (by omega) fun j h1 h2 => hf j h1 (by omega)
theorem cnt_take (p : G.Note → Bool) (l : List G.Note) {j : Nat} (hj : j < l.length) : cnt p (l.take (j + 1)) = cnt p (l.take j) + bif noteOk l[j] && p l[j] then 1 else 0 := by
  rw [take_next l hj]
  simp only [cnt, List.filter_append, List.length_append, List.filter_cons, List.filter_nil]
  cases noteOk l[j] && p l[j] <;> rfl
theorem cnt_uni (p : G.Note → Bool) : ∀ (l : List G.Note), cnt p l = 1 → ∃ (t : Nat) (_ : t < l.length), (noteOk l[t] && p l[t]) = true ∧ ∀ (j : Nat) (hj : j < l.length), j ≠ t → (noteOk l[j] && p l[j]) = false
  | [], h => by cases h
  | x :: l, h => by
    rw [cnt_cons] at h
    cases hx : noteOk x && p x
    · rw [hx] at h
      obtain ⟨t, ht, h1, h2⟩ := cnt_uni p l (by simpa using h)
      refine ⟨t + 1, by simpa using ht, h1, fun j hj hne => ?_⟩
      cases j with
      | zero => exact hx
      | succ j => exact h2 j (by simpa using hj) (by omega)
    · rw [hx] at h
      have h0 : cnt p l = 0 := by simpa using h
      have h0 : anyP p l = false := by rw [← cnt_any, h0]; rfl
      refine ⟨0, by simp, hx, fun j hj hne => ?_⟩
      cases j with
      | zero => exact absurd rfl hne
      | succ j =>
        have hj' : j < l.length := by simpa using hj
        cases hb : noteOk l[j] && p l[j]
        · exact hb
        · have : anyP p l = true := List.any_eq_true.2 ⟨l[j], List.getElem_mem hj', hb⟩
          rw [h0] at this; cases this

theorem drop_all {α : Type} (l : List α) {t : Nat} (h : t < l.length) : List.take (((l.length : Int) - ((t + 1 : Nat) : Int)).toNat) (List.drop (((t + 1 : Nat) : Int).toNat) l) = l.drop (t + 1) := by
  rw [Int.toNat_natCast, List.take_of_length_le]
  rw [List.length_drop]; omega
theorem impl_moveFits_raw (l : List G.Note) (n : G.Note) (h : wt l ≤ LIM ∧ wt n ≤ LIM) : impl_moveFits.raw l n = some (moveFits l n) := by
  have hl := len_lim h.1
  have hn := note_parts h.2
  simp only [impl_moveFits.raw, joinK, sameA_raw]
  let p : Nat → Bool := fun i => (l[i]?).any fun m => noteOk m && pAsked n m
  rw [loop_FU (g := fun _ => some (moveFits l n)) (fun x : Int × Int × Int => ∃ i : Nat, i ≤ l.length ∧ x = ((cnt (pAsked n) (l.take i) : Int), (lastN p i : Int), (i : Int))) (fun x => l.length - x.2.2.toNat) (fun x hx k hk => by
    obtain ⟨i, hi, rfl⟩ := hx
    simp only
    rcases Nat.lt_or_eq_of_le hi with hlt | rfl
    · have hb := note_parts (m := l[i]) (by have := wt_get hlt; omega)
      have hc := cnt_le (pAsked n) (l.take i)
      rw [List.length_take] at hc
      have e1 : iadd .i64 (i : Int) 1 = ((i + 1 : Nat) : Int) := iadd_nat i (by omega)
      have e2 : iadd .i64 (cnt (pAsked n) (l.take i) : Int) 1 = ((cnt (pAsked n) (l.take i) + 1 : Nat) : Int) := iadd_nat _ (by omega)
      have hp : p i = (noteOk l[i] && pAsked n l[i]) := at_any hlt _
      have hstep := hk (((cnt (pAsked n) (l.take (i + 1)) : Nat) : Int), ((lastN p (i + 1) : Nat) : Int), ((i + 1 : Nat) : Int)) ⟨i + 1, hlt, rfl⟩ (by simp only [Int.toNat_natCast]; omega)
      rw [cnt_take _ _ hlt, lastN, hp] at hstep
      simp only [lt_len hlt, cond_true, idxI_get hlt, bind_some', sameO_bind hb.2.2.1 hn.2.2.1, e1, e2]
      have hpa : pAsked n l[i] = (l[i].Kind == 7 && l[i].Body == n.Body) := rfl
      rw [hpa] at hstep
      revert hstep
      cases noteOk l[i] <;> cases l[i].Kind == 7 <;> cases l[i].Body == n.Body <;> intro hstep <;> exact hstep
    · simp only [lt_end, cond_false, List.take_length]
      by_cases h1 : cnt (pAsked n) l = 1
      · obtain ⟨t, ht, h2, h3⟩ := cnt_uni _ _ h1
        have hpt : p t = true := by show (l[t]?).any _ = true; rw [at_any ht]; exact h2
        have hlast : lastN p l.length = t := lastN_eq hpt ht fun j h4 h5 => by
          show (l[j]?).any _ = false; rw [at_any h5]; exact h3 j h5 (by omega)
        have hany : anyN l.length (saidAt l n) = (good n l[t] && anyP (pSay n) (l.drop (t + 1))) := by
          have hst : saidAt l n t = (good n l[t] && anyP (pSay n) (l.drop (t + 1))) := by
            rw [saidAt, at_any ht, h2, Bool.true_and]
          rw [← hst]
          cases hs : saidAt l n t
          · rw [anyN_false]
            intro j hj
            by_cases hjt : j = t
            · subst hjt; exact hs
            · rw [saidAt, at_any hj, h3 j hj hjt]; rfl
          · exact anyN_iff.2 ⟨t, ht, hs⟩
        have ht2 := note_parts (m := l[t]) (by have := wt_get ht; omega)
        have e1 : iadd .i64 (t : Int) 1 = ((t + 1 : Nat) : Int) := iadd_nat t (by omega)
        have e3 : (decide (0 ≤ ((t + 1 : Nat) : Int)) && decide (((t + 1 : Nat) : Int) ≤ (l.length : Int)) && decide ((l.length : Int) ≤ (l.length : Int))) = true := by simp; omega
        rw [h1, hlast]
        simp only [show (((1 : Nat) : Int) != 1) = false from rfl, cond_false, idxI_get ht, bind_some', e1, e3, cond_true, drop_all l ht, cntO,
          pt_bind (p := wt (l.drop (t + 1)) ≤ LIM ∧ wt n ≤ LIM) ⟨Nat.le_trans (wt_drop _ _) h.1, h.2⟩, pt_bind h, cnt_pos, cnt_zero, sameO_bind ht2.2.1 hn.2.1, cond_some, Bool.cond_false_right, moveFits, h1, hany, good]
        simp [Bool.and_assoc]
      · have e0 : ((cnt (pAsked n) l : Int) != 1) = true := bne_iff_ne.2 (by omega)
        rw [e0, moveFits, beq_false_of_ne h1]; rfl) (x := ((0 : Int), (0 : Int), (0 : Int))) ⟨0, Nat.zero_le _, by simp [cnt, lastN]⟩ (by show l.length - Int.toNat 0 < 2 ^ 64; unfold maxLen at hl; simp; omega)]
theorem impl_moveFits.ok {x : TyTup [.sl .Note, .v .Note]} (_ : bdTup [.sl .Note, .v .Note] x) {r : Bool} : fitO moveFits x.1 x.2 = some r → impl_moveFits.raw x.1 x.2 = some r := pt_ok fun h => impl_moveFits_raw x.1 x.2 h

theorem impl_Fits_raw (l : List G.Note) (i : Int) (h : wt l ≤ LIM) : impl_Fits.raw l i = some (noteFits l i) := by
  have hl := len_lim h
  simp only [impl_Fits.raw, joinK, noteFits]
  by_cases h0 : 0 ≤ i
  · obtain ⟨j, rfl⟩ := int_nat h0
    have e0 : decide ((j : Int) < 0) = false := decide_eq_false (by omega)
    have e1 : decide ((0 : Int) ≤ (j : Int)) = true := decide_eq_true (by omega)
    rw [e0, e1, Int.toNat_natCast, Bool.true_and, fitsAt]
    by_cases hj : j < l.length
    · have e2 : decide ((j : Int) ≥ (l.length : Int)) = false := decide_eq_false (by omega)
      have hw := wt_get hj
      have hn : wt l[j] ≤ LIM := by omega
      have hp := note_parts hn
      have hpre := take_wt h j
      have e3 : (decide ((0 : Int) ≤ 0) && true && decide ((j : Int) ≤ (l.length : Int))) = true := by simp; omega
      rw [e2, at_any hj, e3]
      simp only [idxI_get hj, bind_some', cond_true, cond_false, cut_eq, shownO, pt_bind (p := wt (l.take j) ≤ LIM ∧ wt l[j].Sn ≤ LIM) ⟨hpre, hp.2.1⟩, fitO, cntO, pt_bind (p := wt (l.take j) ≤ LIM ∧ wt l[j] ≤ LIM) ⟨hpre, hn⟩, cnt_pos, cnt_zero, cond_some, Bool.cond_false_right]
      cases noteOk l[j]
      · rfl
      cases shown (l.take j) l[j].Sn <;> rfl
    · have e2 : decide ((j : Int) ≥ (l.length : Int)) = true := decide_eq_true (by omega)
      rw [e2, List.getElem?_eq_none (by omega)]; rfl
  · have e0 : decide (i < 0) = true := decide_eq_true (by omega)
    have e1 : decide (0 ≤ i) = false := decide_eq_false h0
    rw [e0, e1]; rfl
theorem impl_Fits.ok {x : TyTup [.sl .Note, .v .int]} (_ : bdTup [.sl .Note, .v .int] x) {r : Bool} : fitsO x.1 x.2 = some r → impl_Fits.raw x.1 x.2 = some r := pt_ok fun h => impl_Fits_raw x.1 x.2 h
theorem ideal_raw (l : List G.Note) (h : wt l ≤ LIM) : (joinK (fun (y1 : Unit) => some true) fun k2 => loopK FU (fun (x3 : Int) k4 => cond (decide (x3 < (l.length : Int))) (Option.bind (fitsO l x3) fun r5 => cond (!r5) (some false) (k4 (iadd .i64 x3 1))) (k2 ())) 0) = some (ideal l) := by
  simp only [joinK, ideal]
  rw [loop_any l.length (len_lim h) (fun i => !fitsAt l i) (some false) (some true) (fun i k hi => ?_) (fun k => by simp only [lt_end, cond_false])]
  · cases anyN _ _ <;> rfl
  · simp only [lt_len hi, cond_true, fitsO, pt_bind h, noteFits, Int.toNat_natCast]
    rw [decide_eq_true (p := (0 : Int) ≤ (i : Int)) (by omega), Bool.true_and]
theorem impl_Ideal.ok {x : TyTup [.sl .Note]} (_ : bdTup [.sl .Note] x) {r : Bool} : idealO x = some r → impl_Ideal.raw x = some r := pt_ok fun h => ideal_raw x h
end Go.D

/-
  The reference's Fits.
-/
namespace Go.D

/-! ### Serve -/

/-! ### A mark and what may not be -/

/-! ### Moves -/

end Go.D

/-
  The reference's Fits, kind by kind.
-/
namespace Go.D

end Go.D
