/-
  What the functions compute, in plain words.
-/
import Derived.Test.YtilkenfgjljknaaBDefs
namespace Go.D

def inR (n lo hi : Int) : Bool := decide (n ≥ lo) && decide (n ≤ hi)
def always {α : Type} (_ : α) : Bool := true
def always2 {α β : Type} (_ : α) (_ : β) : Bool := true

def eventOk (e : G.Event) : Bool := inR e.Kind 1 17 && inR e.I 0 10000 && inR e.J 0 10000 && inR e.N 0 10000 && decide ((e.B.length : Int) ≤ 200) && decide ((e.Ops.length : Int) ≤ 16)

noncomputable def sameO (a b : List UInt8) : Option Bool := pt (wt a ≤ LIM ∧ wt b ≤ LIM) (a == b)

def shown (l : List G.Note) (b : List UInt8) : Bool := anyN l.length fun i => (l[i]?).any fun e => e.Kind == 13 && e.Sn == b
noncomputable def shownO (l : List G.Note) (b : List UInt8) : Option Bool := pt (wt l ≤ LIM ∧ wt b ≤ LIM) (shown l b)

def rolledAt (l : List G.Note) (i : Nat) : Bool := anyN i fun j => (l[i]?).any fun e => (l[j]?).any fun d => e.Kind == 14 && (d.Kind == 14 && d.Body == e.Body)
noncomputable def rolledAtO (l : List G.Note) (i : Int) : Option Bool := pt (wt l ≤ LIM ∧ 0 ≤ i ∧ i < l.length) (rolledAt l i.toNat)
def rolled (l : List G.Note) : Bool := anyN l.length (rolledAt l)
noncomputable def rolledO (l : List G.Note) : Option Bool := pt (wt l ≤ LIM) (rolled l)

def isUp (n : G.Note) : Bool := n.Kind == 3 || n.Kind == 4
def isKey (n : G.Note) : Bool := isUp n || n.Kind == 10
def differ (a b : G.Note) : Bool := (isUp a && isUp b && !(a.Cn == b.Cn)) || (isKey a && isKey b && (!(a.Sn == b.Sn) || a.Epoch != b.Epoch)) || (a.Kind == 12 && b.Kind == 12)
noncomputable def differO (a b : G.Note) : Option Bool := pt (wt a ≤ LIM ∧ wt b ≤ LIM) (differ a b)
def twiceAt (l : List G.Note) (i : Nat) : Bool := anyN i fun j => (l[i]?).any fun e => (l[j]?).any fun d => d.Key == e.Key && differ d e
noncomputable def twiceAtO (l : List G.Note) (i : Int) : Option Bool := pt (wt l ≤ LIM ∧ 0 ≤ i ∧ i < l.length) (twiceAt l i.toNat)
def twice (l : List G.Note) : Bool := anyN l.length (twiceAt l)
noncomputable def twiceO (l : List G.Note) : Option Bool := pt (wt l ≤ LIM) (twice l)

def asked (l : List G.Note) (e : G.Note) (i : Nat) : Bool := anyN i fun j => (l[j]?).any fun d => d.Kind == 15 && (d.Key == e.Key && d.Body == e.Body)
def forgedAt (l : List G.Note) (i : Nat) : Bool := (l[i]?).any fun e => e.Kind == 16 && (!shown (l.take i) e.Sn && !asked l e i)
noncomputable def forgedAtO (l : List G.Note) (i : Int) : Option Bool := pt (wt l ≤ LIM ∧ 0 ≤ i ∧ i < l.length) (forgedAt l i.toNat)
def forged (l : List G.Note) : Bool := anyN l.length (forgedAt l)
noncomputable def forgedO (l : List G.Note) : Option Bool := pt (wt l ≤ LIM) (forged l)

def luckAt (l : List G.Note) (i : Nat) : Bool := rolledAt l i || forgedAt l i || twiceAt l i
def lucky (l : List G.Note) : Bool := rolled l || forged l || twice l
noncomputable def luckyO (l : List G.Note) : Option Bool := pt (wt l ≤ LIM) (lucky l)
def luckyAt (l : List G.Note) : Int := match (List.range l.length).find? (luckAt l) with | some i => (i : Int) + 1 | none => -1
noncomputable def luckyAtO (l : List G.Note) : Option Int := pt (wt l ≤ LIM) (luckyAt l)

end Go.D
