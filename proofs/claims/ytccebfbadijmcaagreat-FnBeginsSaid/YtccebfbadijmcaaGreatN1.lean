/-
  Sizes of the program's data.
-/
import Derived.Test.YtccebfbadijmcaaGreatL8
namespace Go.D

instance : Wt G.Addr := ⟨fun _ => 0⟩
instance : Wt G.Op := ⟨fun x => wt x.B⟩
instance : Wt G.Event := ⟨fun x => wt x.B + wt x.Ops⟩
instance : Wt G.Note := ⟨fun x => wt x.Cn + wt x.Sn + wt x.Body + wt x.Key + wt x.A⟩
theorem wt_Note (x : G.Note) : wt x = wt x.Cn + wt x.Sn + wt x.Body + wt x.Key + wt x.A := rfl

end Go.D


/-
  What the functions compute, in plain words.
-/
namespace Go.D

def inR (n lo hi : Int) : Bool := decide (n ≥ lo) && decide (n ≤ hi)
def always {α : Type} (_ : α) : Bool := true
noncomputable def sameO (a b : List UInt8) : Option Bool := pt (wt a ≤ LIM ∧ wt b ≤ LIM) (a == b)

def shown (l : List G.Note) (b : List UInt8) : Bool := anyN l.length fun i => (l[i]?).any fun e => e.Kind == 13 && e.Sn == b
noncomputable def shownO (l : List G.Note) (b : List UInt8) : Option Bool := pt (wt l ≤ LIM ∧ wt b ≤ LIM) (shown l b)

def rolledAt (l : List G.Note) (i : Nat) : Bool := anyN i fun j => (l[i]?).any fun e => (l[j]?).any fun d => e.Kind == 14 && (d.Kind == 14 && d.Body == e.Body)
noncomputable def rolledAtO (l : List G.Note) (i : Int) : Option Bool := pt (wt l ≤ LIM ∧ 0 ≤ i ∧ i < l.length) (rolledAt l i.toNat)
def rolled (l : List G.Note) : Bool := anyN l.length (rolledAt l)
noncomputable def rolledO (l : List G.Note) : Option Bool := pt (wt l ≤ LIM) (rolled l)

def isUp (n : G.Note) : Bool := n.Kind == 3 || n.Kind == 4
def isKey (n : G.Note) : Bool := isUp n || n.Kind == 10
def differ (a b : G.Note) : Bool := (isUp a && isUp b && !(a.Cn == b.Cn)) || (isKey a && isKey b && (!(a.Sn == b.Sn) || a.Epoch != b.Epoch)) || (a.Kind == 12 && b.Kind == 12)
noncomputable def differO (a b : G.Note) : Option Bool := pt (wt a ≤ LIM ∧ wt b ≤ LIM) (differ a b)
def twiceAt (l : List G.Note) (i : Nat) : Bool := anyN i fun j => (l[i]?).any fun e => (l[j]?).any fun d => d.Key == e.Key && differ d e
noncomputable def twiceAtO (l : List G.Note) (i : Int) : Option Bool := pt (wt l ≤ LIM ∧ 0 ≤ i ∧ i < l.length) (twiceAt l i.toNat)
def twice (l : List G.Note) : Bool := anyN l.length (twiceAt l)
noncomputable def twiceO (l : List G.Note) : Option Bool := pt (wt l ≤ LIM) (twice l)

def asked (l : List G.Note) (e : G.Note) (i : Nat) : Bool := anyN i fun j => (l[j]?).any fun d => d.Kind == 15 && (d.Key == e.Key && d.Body == e.Body)
def forgedAt (l : List G.Note) (i : Nat) : Bool := (l[i]?).any fun e => e.Kind == 16 && (!shown (l.take i) e.Sn && !asked l e i)
noncomputable def forgedAtO (l : List G.Note) (i : Int) : Option Bool := pt (wt l ≤ LIM ∧ 0 ≤ i ∧ i < l.length) (forgedAt l i.toNat)
def forged (l : List G.Note) : Bool := anyN l.length (forgedAt l)
noncomputable def forgedO (l : List G.Note) : Option Bool := pt (wt l ≤ LIM) (forged l)

def lucky (l : List G.Note) : Bool := rolled l || forged l || twice l
noncomputable def luckyO (l : List G.Note) : Option Bool := pt (wt l ≤ LIM) (lucky l)
end Go.D

/-
  What the functions compute, as the plain semantics says it.
-/
namespace Go.D

noncomputable def spec_l1In.raw (a0 : Int) (a1 : Int) (a2 : Int) : Option Bool :=
  joinK (fun (y1 : Bool) =>
  some y1) fun k2 =>
  cond (decide (a0 ≥ a1))
  (k2 (decide (a0 ≤ a2)))
  (k2 false)

noncomputable def impl_within.raw (a0 : Int) (a1 : Int) (a2 : Int) : Option Bool :=
  joinK (fun (y1 : Bool) =>
  some y1) fun k2 =>
  cond (decide (a0 ≥ a1))
  (k2 (decide (a0 ≤ a2)))
  (k2 false)

noncomputable def spec_l1Same.raw (a0 : List UInt8) (a1 : List UInt8) : Option Bool :=
  cond (Nat.ble a0.length LIM) (cond (Nat.ble a1.length LIM) (some (a0 == a1)) none) none

noncomputable def bytes_Equal.raw (a0 : List UInt8) (a1 : List UInt8) : Option Bool :=
  cond (Nat.ble a0.length LIM) (cond (Nat.ble a1.length LIM) (some (a0 == a1)) none) none

noncomputable def impl_Shown.raw (a0 : List G.Note) (a1 : List UInt8) : Option Bool :=
  joinK (fun (y1 : Unit) =>
  some false) fun k2 =>
  loopK FU (fun (x3 : Int) k4 =>
  cond (decide (x3 < (a0.length : Int)))
  (Option.bind (idxI a0 x3) fun e5 =>
  joinK (fun (y6 : Bool) =>
  cond (y6)
  (some true)
  (k4 (iadd .i64 x3 1))) fun k7 =>
  cond (e5.Kind == 13)
  (Option.bind (sameO e5.Sn a1) fun r8 =>
  k7 r8)
  (k7 false))
  (k2 ())) 0

noncomputable def impl_rolledAt.raw (a0 : List G.Note) (a1 : Int) : Option Bool :=
  cond (decide (0 ≤ (0 : Int)) && decide ((0 : Int) ≤ a1) && decide (a1 ≤ (a0.length : Int))) (let l1 : List G.Note := List.take ((a1 - 0).toNat) (List.drop 0 a0)
  joinK (fun (y2 : Unit) =>
  some false) fun k3 =>
  loopK FU (fun (x4 : Int) k5 =>
  cond (decide (x4 < (l1.length : Int)))
  (Option.bind (idxI l1 x4) fun e6 =>
  joinK (fun (y7 : Bool) =>
  cond (y7)
  (some true)
  (k5 (iadd .i64 x4 1))) fun k8 =>
  Option.bind (idxI a0 a1) fun e9 =>
  cond (e9.Kind == 14)
  (cond (e6.Kind == 14)
  (Option.bind (idxI a0 a1) fun e10 =>
  Option.bind (sameO e6.Body e10.Body) fun r11 =>
  k8 r11)
  (k8 false))
  (k8 false))
  (k3 ())) 0) none

noncomputable def impl_Rolled.raw (a0 : List G.Note) : Option Bool :=
  joinK (fun (y1 : Unit) =>
  some false) fun k2 =>
  loopK FU (fun (x3 : Int) k4 =>
  cond (decide (x3 < (a0.length : Int)))
  (Option.bind (rolledAtO a0 x3) fun r5 =>
  cond (r5)
  (some true)
  (k4 (iadd .i64 x3 1)))
  (k2 ())) 0

noncomputable def impl_keysDiffer.raw (a0 : G.Note) (a1 : G.Note) : Option Bool :=
  joinK (fun (y1 : Bool × Bool) =>
  joinK (fun (y3 : Bool) =>
  cond (y3)
  (some true)
  (joinK (fun (y6 : Bool) =>
  cond (y6)
  (joinK (fun (y8 : Bool) =>
  some y8) fun k9 =>
  Option.bind (sameO a0.Sn a1.Sn) fun r10 =>
  cond (!r10)
  (k9 true)
  (k9 (a0.Epoch != a1.Epoch)))
  (joinK (fun (y11 : Bool) =>
  some y11) fun k12 =>
  cond (a0.Kind == 12)
  (k12 (a1.Kind == 12))
  (k12 false))) fun k7 =>
  cond (y1.1)
  (cond (y1.2)
  (k7 true)
  (k7 (a1.Kind == 10)))
  (cond (a0.Kind == 10)
  (cond (y1.2)
  (k7 true)
  (k7 (a1.Kind == 10)))
  (k7 false)))) fun k4 =>
  cond (y1.1)
  (cond (y1.2)
  (Option.bind (sameO a0.Cn a1.Cn) fun r5 =>
  k4 (!r5))
  (k4 false))
  (k4 false)) fun k2 =>
  cond (a0.Kind == 3)
  (cond (a1.Kind == 3)
  (k2 (true, true))
  (k2 (true, (a1.Kind == 4))))
  (cond (a1.Kind == 3)
  (k2 ((a0.Kind == 4), true))
  (k2 ((a0.Kind == 4), (a1.Kind == 4))))

noncomputable def impl_keyTwiceAt.raw (a0 : List G.Note) (a1 : Int) : Option Bool :=
  cond (decide (0 ≤ (0 : Int)) && decide ((0 : Int) ≤ a1) && decide (a1 ≤ (a0.length : Int))) (let l1 : List G.Note := List.take ((a1 - 0).toNat) (List.drop 0 a0)
  joinK (fun (y2 : Unit) =>
  some false) fun k3 =>
  loopK FU (fun (x4 : Int) k5 =>
  cond (decide (x4 < (l1.length : Int)))
  (Option.bind (idxI l1 x4) fun e6 =>
  joinK (fun (y7 : Bool) =>
  cond (y7)
  (some true)
  (k5 (iadd .i64 x4 1))) fun k8 =>
  Option.bind (idxI a0 a1) fun e9 =>
  Option.bind (sameO e6.Key e9.Key) fun r10 =>
  cond (r10)
  (Option.bind (idxI a0 a1) fun e11 =>
  Option.bind (differO e6 e11) fun r12 =>
  k8 r12)
  (k8 false))
  (k3 ())) 0) none

noncomputable def impl_KeyTwice.raw (a0 : List G.Note) : Option Bool :=
  joinK (fun (y1 : Unit) =>
  some false) fun k2 =>
  loopK FU (fun (x3 : Int) k4 =>
  cond (decide (x3 < (a0.length : Int)))
  (Option.bind (twiceAtO a0 x3) fun r5 =>
  cond (r5)
  (some true)
  (k4 (iadd .i64 x3 1)))
  (k2 ())) 0

noncomputable def impl_forgedAt.raw (a0 : List G.Note) (a1 : Int) : Option Bool :=
  joinK (fun (y1 : Bool) =>
  cond (y1)
  (some false)
  (cond (decide (0 ≤ (0 : Int)) && decide ((0 : Int) ≤ a1) && decide (a1 ≤ (a0.length : Int))) (let l7 : List G.Note := List.take ((a1 - 0).toNat) (List.drop 0 a0)
  joinK (fun (y8 : Unit) =>
  some true) fun k9 =>
  loopK FU (fun (x10 : Int) k11 =>
  cond (decide (x10 < (l7.length : Int)))
  (Option.bind (idxI l7 x10) fun e12 =>
  joinK (fun (y13 : Bool) =>
  cond (y13)
  (some false)
  (k11 (iadd .i64 x10 1))) fun k14 =>
  cond (e12.Kind == 15)
  (Option.bind (idxI a0 a1) fun e15 =>
  Option.bind (sameO e12.Key e15.Key) fun r16 =>
  cond (r16)
  (Option.bind (idxI a0 a1) fun e17 =>
  Option.bind (sameO e12.Body e17.Body) fun r18 =>
  k14 r18)
  (k14 false))
  (k14 false))
  (k9 ())) 0) none)) fun k2 =>
  Option.bind (idxI a0 a1) fun e3 =>
  cond (e3.Kind != 16)
  (k2 true)
  (cond (decide (0 ≤ (0 : Int)) && decide ((0 : Int) ≤ a1) && decide (a1 ≤ (a0.length : Int))) (let l4 : List G.Note := List.take ((a1 - 0).toNat) (List.drop 0 a0)
  Option.bind (idxI a0 a1) fun e5 =>
  Option.bind (shownO l4 e5.Sn) fun r6 =>
  k2 r6) none)

noncomputable def impl_Forged.raw (a0 : List G.Note) : Option Bool :=
  joinK (fun (y1 : Unit) =>
  some false) fun k2 =>
  loopK FU (fun (x3 : Int) k4 =>
  cond (decide (x3 < (a0.length : Int)))
  (Option.bind (forgedAtO a0 x3) fun r5 =>
  cond (r5)
  (some true)
  (k4 (iadd .i64 x3 1)))
  (k2 ())) 0

noncomputable def impl_Lucky.raw (a0 : List G.Note) : Option Bool :=
  joinK (fun (y1 : Bool) =>
  some y1) fun k2 =>
  Option.bind (rolledO a0) fun r3 =>
  cond (r3)
  (k2 true)
  (Option.bind (forgedO a0) fun r4 =>
  cond (r4)
  (k2 true)
  (Option.bind (twiceO a0) fun r5 =>
  k2 r5))

end Go.D

/-
  What the laws' own functions compute.
-/
namespace Go.D

end Go.D

/-
  Each function computes what is said of it.
-/
namespace Go.D

theorem inR_raw (a b c : Int) : joinK (R := Bool) (fun (y : Bool) => some y) (fun k => cond (decide (a ≥ b)) (k (decide (a ≤ c))) (k false)) = some (inR a b c) := by
  simp only [joinK, inR]
  cases decide (a ≥ b) <;> rfl
theorem impl_within.ok {x : TyTup [.v .int, .v .int, .v .int]} (_ : bdTup [.v .int, .v .int, .v .int] x) : impl_within.raw x.1 x.2.1 x.2.2 = some (inR x.1 x.2.1 x.2.2) := inR_raw _ _ _
theorem spec_l1In.ok {x : TyTup [.v .int, .v .int, .v .int]} (_ : bdTup [.v .int, .v .int, .v .int] x) : spec_l1In.raw x.1 x.2.1 x.2.2 = some (inR x.1 x.2.1 x.2.2) := inR_raw _ _ _

theorem lt_len {n i : Nat} (h : i < n) : decide ((i : Int) < (n : Int)) = true := by simp; exact h
theorem lt_end {n : Nat} : decide ((n : Int) < (n : Int)) = false := by simp
theorem cut_ok {n i : Nat} (h : i ≤ n) : (decide (0 ≤ (0 : Int)) && decide ((0 : Int) ≤ (i : Int)) && decide ((i : Int) ≤ (n : Int))) = true := by simp; exact h
theorem cut_eq {α : Type} (l : List α) (i : Nat) : List.take (((i : Int) - 0).toNat) (List.drop 0 l) = l.take i := by simp

/-! ### Events -/

/-! ### Bytes -/

theorem ble_ok {n m : Nat} (h : n ≤ m) : Nat.ble n m = true := Nat.ble_eq_true_of_le h
theorem sameO_raw (a b : List UInt8) {r : Bool} : sameO a b = some r → (cond (Nat.ble a.length LIM) (cond (Nat.ble b.length LIM) (some (a == b)) none) none) = some r :=
  pt_ok fun h => by
    rw [ble_ok (by rw [← wt_bytes]; exact h.1), ble_ok (by rw [← wt_bytes]; exact h.2)]; rfl
theorem bytes_Equal.ok {x : TyTup [.sl .byte, .sl .byte]} (_ : bdTup [.sl .byte, .sl .byte] x) {r : Bool} : sameO x.1 x.2 = some r → bytes_Equal.raw x.1 x.2 = some r := sameO_raw x.1 x.2
theorem spec_l1Same.ok {x : TyTup [.sl .byte, .sl .byte]} (_ : bdTup [.sl .byte, .sl .byte] x) {r : Bool} : sameO x.1 x.2 = some r → spec_l1Same.raw x.1 x.2 = some r := sameO_raw x.1 x.2

/-- The bytes of a note in a list. -/
theorem note_wt {l : List G.Note} (h : wt l ≤ LIM) {i : Nat} (hi : i < l.length) : wt l[i] ≤ LIM ∧ wt l[i].Cn ≤ LIM ∧ wt l[i].Sn ≤ LIM ∧ wt l[i].Body ≤ LIM ∧ wt l[i].Key ≤ LIM := by
  have := wt_get hi
  rw [wt_Note] at this
  have h2 := wt_Note l[i]
  omega

/-! ### Shown -/

theorem impl_Shown_raw (l : List G.Note) (b : List UInt8) (hl : l.length ≤ maxLen) (h : wt l ≤ LIM ∧ wt b ≤ LIM) : impl_Shown.raw l b = some (shown l b) := by
  simp only [impl_Shown.raw, joinK, shown]
  rw [loop_any l.length hl (fun i => (l[i]?).any fun e => e.Kind == 13 && e.Sn == b) (some true) (some false) (fun i k hi => ?_) (fun k => by simp only [lt_end, cond_false])]
  · cases anyN _ _ <;> rfl
  · simp only [lt_len hi, cond_true, idxI_get hi, bind_some', at_any hi, sameO]
    rw [pt_bind ⟨(note_wt h.1 hi).2.2.1, h.2⟩]
    cases l[i].Kind == 13 <;> cases l[i].Sn == b <;> rfl
theorem impl_Shown.ok {x : TyTup [.sl .Note, .sl .byte]} (hb : bdTup [.sl .Note, .sl .byte] x) {r : Bool} : shownO x.1 x.2 = some r → impl_Shown.raw x.1 x.2 = some r := pt_ok fun h => impl_Shown_raw x.1 x.2 hb.1.1 h
/-! ### Rolled -/

theorem impl_rolledAt_raw (l : List G.Note) (i : Nat) (hl : l.length ≤ maxLen) (h : wt l ≤ LIM) (hi : i < l.length) : impl_rolledAt.raw l (i : Int) = some (rolledAt l i) := by
  simp only [impl_rolledAt.raw, cut_ok (Nat.le_of_lt hi), cond_true, cut_eq, joinK, rolledAt]
  have hlen : (l.take i).length = i := by rw [List.length_take]; omega
  rw [loop_any i (by omega) (fun j => (l[i]?).any fun e => (l[j]?).any fun d => e.Kind == 14 && (d.Kind == 14 && d.Body == e.Body)) (some true) (some false) (fun j k hj => ?_) (fun k => by rw [hlen]; simp only [lt_end, cond_false])]
  · cases anyN _ _ <;> rfl
  · have hj2 : j < (l.take i).length := by omega
    simp only [lt_len hj2, cond_true, idxI_get hj2, idxI_get hi, bind_some', at_any hi, at_any (Nat.lt_trans hj hi), List.getElem_take, sameO]
    rw [pt_bind ⟨(note_wt h (Nat.lt_trans hj hi)).2.2.2.1, (note_wt h hi).2.2.2.1⟩]
    cases l[i].Kind == 14 <;> cases l[j].Kind == 14 <;> cases l[j].Body == l[i].Body <;> rfl
theorem at_nat {l : List G.Note} {i : Int} (h : 0 ≤ i ∧ i < l.length) : ∃ j : Nat, i = (j : Int) ∧ j < l.length := by
  obtain ⟨j, rfl⟩ := Int.eq_ofNat_of_zero_le h.1
  exact ⟨j, rfl, by omega⟩
theorem impl_rolledAt.ok {x : TyTup [.sl .Note, .v .int]} (hb : bdTup [.sl .Note, .v .int] x) {r : Bool} : rolledAtO x.1 x.2 = some r → impl_rolledAt.raw x.1 x.2 = some r := pt_ok fun h => by
  obtain ⟨l, i⟩ := x
  obtain ⟨j, hj, hlt⟩ := at_nat h.2
  have hj : i = (j : Int) := hj
  subst hj
  exact impl_rolledAt_raw l j hb.1.1 h.1 hlt
theorem impl_Rolled_raw (l : List G.Note) (hl : l.length ≤ maxLen) (h : wt l ≤ LIM) : impl_Rolled.raw l = some (rolled l) := by
  simp only [impl_Rolled.raw, joinK, rolled]
  rw [loop_any l.length hl (rolledAt l) (some true) (some false) (fun i k hi => ?_) (fun k => by simp only [lt_end, cond_false])]
  · cases anyN _ _ <;> rfl
  · simp only [lt_len hi, cond_true, rolledAtO]
    rw [pt_bind ⟨h, by omega, by omega⟩, Int.toNat_natCast]
theorem impl_Rolled.ok {x : TyTup [.sl .Note]} (hb : bdTup [.sl .Note] x) {r : Bool} : rolledO x = some r → impl_Rolled.raw x = some r := pt_ok fun h => impl_Rolled_raw x hb.1 h
/-! ### KeyTwice -/

theorem impl_keysDiffer_raw (a b : G.Note) (h : wt a ≤ LIM ∧ wt b ≤ LIM) : impl_keysDiffer.raw a b = some (differ a b) := by
  have ha := h.1
  have hb := h.2
  rw [wt_Note] at ha hb
  simp only [impl_keysDiffer.raw, joinK, sameO, pt_bind (p := wt a.Sn ≤ LIM ∧ wt b.Sn ≤ LIM) ⟨by omega, by omega⟩, pt_bind (p := wt a.Cn ≤ LIM ∧ wt b.Cn ≤ LIM) ⟨by omega, by omega⟩, differ, isKey, isUp]
  generalize hA : a.Kind = ka
  generalize hB : b.Kind = kb
  generalize (a.Sn == b.Sn) = s1, (a.Cn == b.Cn) = s2, (a.Epoch != b.Epoch) = s3
  by_cases a3 : ka = 3
  · subst a3
    by_cases b3 : kb = 3
    · subst b3; cases s1 <;> cases s2 <;> cases s3 <;> rfl
    by_cases b4 : kb = 4
    · subst b4; cases s1 <;> cases s2 <;> cases s3 <;> rfl
    by_cases b10 : kb = 10
    · subst b10; cases s1 <;> cases s2 <;> cases s3 <;> rfl
    have e3 : (kb == 3) = false := by simp [b3]
    have e4 : (kb == 4) = false := by simp [b4]
    have e10 : (kb == 10) = false := by simp [b10]
    simp only [e3, e4, e10]
    cases s1 <;> cases s2 <;> cases s3 <;> rfl
  by_cases a4 : ka = 4
  · subst a4
    by_cases b3 : kb = 3
    · subst b3; cases s1 <;> cases s2 <;> cases s3 <;> rfl
    by_cases b4 : kb = 4
    · subst b4; cases s1 <;> cases s2 <;> cases s3 <;> rfl
    by_cases b10 : kb = 10
    · subst b10; cases s1 <;> cases s2 <;> cases s3 <;> rfl
    have e3 : (kb == 3) = false := by simp [b3]
    have e4 : (kb == 4) = false := by simp [b4]
    have e10 : (kb == 10) = false := by simp [b10]
    simp only [e3, e4, e10]
    cases s1 <;> cases s2 <;> cases s3 <;> rfl
  by_cases a10 : ka = 10
  · subst a10
    by_cases b3 : kb = 3
    · subst b3; cases s1 <;> cases s2 <;> cases s3 <;> rfl
    by_cases b4 : kb = 4
    · subst b4; cases s1 <;> cases s2 <;> cases s3 <;> rfl
    by_cases b10 : kb = 10
    · subst b10; cases s1 <;> cases s2 <;> cases s3 <;> rfl
    have e3 : (kb == 3) = false := by simp [b3]
    have e4 : (kb == 4) = false := by simp [b4]
    have e10 : (kb == 10) = false := by simp [b10]
    simp only [e3, e4, e10]
    cases s1 <;> cases s2 <;> cases s3 <;> rfl
  have e3 : (ka == 3) = false := by simp [a3]
  have e4 : (ka == 4) = false := by simp [a4]
  have e10 : (ka == 10) = false := by simp [a10]
  simp only [e3, e4, e10]
  cases (kb == 3) <;> cases (kb == 4) <;> cases (kb == 10) <;> cases (ka == 12) <;> cases (kb == 12) <;> rfl
theorem impl_keysDiffer.ok {x : TyTup [.v .Note, .v .Note]} (_ : bdTup [.v .Note, .v .Note] x) {r : Bool} : differO x.1 x.2 = some r → impl_keysDiffer.raw x.1 x.2 = some r := pt_ok fun h => impl_keysDiffer_raw x.1 x.2 h

theorem impl_keyTwiceAt_raw (l : List G.Note) (i : Nat) (hl : l.length ≤ maxLen) (h : wt l ≤ LIM) (hi : i < l.length) : impl_keyTwiceAt.raw l (i : Int) = some (twiceAt l i) := by
  simp only [impl_keyTwiceAt.raw, cut_ok (Nat.le_of_lt hi), cond_true, cut_eq, joinK, twiceAt]
  have hlen : (l.take i).length = i := by rw [List.length_take]; omega
  rw [loop_any i (by omega) (fun j => (l[i]?).any fun e => (l[j]?).any fun d => d.Key == e.Key && differ d e) (some true) (some false) (fun j k hj => ?_) (fun k => by rw [hlen]; simp only [lt_end, cond_false])]
  · cases anyN _ _ <;> rfl
  · have hj2 : j < (l.take i).length := by omega
    have hw := note_wt h hi
    have hw2 := note_wt h (Nat.lt_trans hj hi)
    simp only [lt_len hj2, cond_true, idxI_get hj2, idxI_get hi, bind_some', at_any hi, at_any (Nat.lt_trans hj hi), List.getElem_take, sameO, differO]
    rw [pt_bind ⟨hw2.2.2.2.2, hw.2.2.2.2⟩, pt_bind ⟨hw2.1, hw.1⟩]
    cases l[j].Key == l[i].Key <;> cases differ l[j] l[i] <;> rfl
theorem impl_keyTwiceAt.ok {x : TyTup [.sl .Note, .v .int]} (hb : bdTup [.sl .Note, .v .int] x) {r : Bool} : twiceAtO x.1 x.2 = some r → impl_keyTwiceAt.raw x.1 x.2 = some r := pt_ok fun h => by
  obtain ⟨l, i⟩ := x
  obtain ⟨j, hj, hlt⟩ := at_nat h.2
  have hj : i = (j : Int) := hj
  subst hj
  exact impl_keyTwiceAt_raw l j hb.1.1 h.1 hlt
theorem impl_KeyTwice_raw (l : List G.Note) (hl : l.length ≤ maxLen) (h : wt l ≤ LIM) : impl_KeyTwice.raw l = some (twice l) := by
  simp only [impl_KeyTwice.raw, joinK, twice]
  rw [loop_any l.length hl (twiceAt l) (some true) (some false) (fun i k hi => ?_) (fun k => by simp only [lt_end, cond_false])]
  · cases anyN _ _ <;> rfl
  · simp only [lt_len hi, cond_true, twiceAtO]
    rw [pt_bind ⟨h, by omega, by omega⟩, Int.toNat_natCast]
theorem impl_KeyTwice.ok {x : TyTup [.sl .Note]} (hb : bdTup [.sl .Note] x) {r : Bool} : twiceO x = some r → impl_KeyTwice.raw x = some r := pt_ok fun h => impl_KeyTwice_raw x hb.1 h

/-! ### Forged -/

theorem take_wt {l : List G.Note} (h : wt l ≤ LIM) (i : Nat) : wt (l.take i) ≤ LIM := Nat.le_trans (wt_take l i) h
theorem impl_forgedAt_raw (l : List G.Note) (i : Nat) (hl : l.length ≤ maxLen) (h : wt l ≤ LIM) (hi : i < l.length) : impl_forgedAt.raw l (i : Int) = some (forgedAt l i) := by
  have hlen : (l.take i).length = i := by rw [List.length_take]; omega
  have hw := note_wt h hi
  have hloop : ∀ z : Option Bool, loopK FU (fun (x9 : Int) k10 => cond (decide (x9 < ((l.take i).length : Int))) (Option.bind (idxI (l.take i) x9) fun e11 => cond (e11.Kind == 15) (Option.bind (idxI l (i : Int)) fun e14 =>
      Option.bind (sameO e11.Key e14.Key) fun r15 => cond r15 (Option.bind (idxI l (i : Int)) fun e16 => Option.bind (sameO e11.Body e16.Body) fun r17 => cond r17 (some false) (k10 (iadd .i64 x9 1))) (cond false (some false) (k10 (iadd .i64 x9 1))))
        (cond false (some false) (k10 (iadd .i64 x9 1)))) z) (0 : Int) = bif asked l l[i] i then some false else z := fun z => by
    rw [loop_any i (by omega) (fun j => (l[j]?).any fun d => d.Kind == 15 && (d.Key == l[i].Key && d.Body == l[i].Body)) (some false) z (fun j k hj => ?_) (fun k => by rw [hlen]; simp only [lt_end, cond_false])]
    · rfl
    · have hj2 : j < (l.take i).length := by omega
      have hw2 := note_wt h (Nat.lt_trans hj hi)
      simp only [lt_len hj2, cond_true, idxI_get hj2, idxI_get hi, bind_some', at_any (Nat.lt_trans hj hi), List.getElem_take, sameO]
      rw [pt_bind ⟨hw2.2.2.2.2, hw.2.2.2.2⟩, pt_bind ⟨hw2.2.2.2.1, hw.2.2.2.1⟩]
      cases l[j].Kind == 15 <;> cases l[j].Key == l[i].Key <;> cases l[j].Body == l[i].Body <;> rfl
  simp only [impl_forgedAt.raw, joinK, idxI_get hi, bind_some', cut_ok (Nat.le_of_lt hi), cond_true, cut_eq, shownO, forgedAt, at_any hi]
  rw [pt_bind ⟨take_wt h i, hw.2.2.1⟩]
  have hl2 := hloop (some true)
  simp only [idxI_get hi, bind_some'] at hl2
  rw [hl2]
  by_cases h16 : l[i].Kind = 16
  · have e1 : (l[i].Kind != 16) = false := by simp [h16]
    have e2 : (l[i].Kind == 16) = true := by simp [h16]
    rw [e1, e2]
    cases shown (l.take i) l[i].Sn <;> cases asked l l[i] i <;> rfl
  · have e1 : (l[i].Kind != 16) = true := by simp [h16]
    have e2 : (l[i].Kind == 16) = false := by simp [h16]
    rw [e1, e2]; rfl
theorem impl_forgedAt.ok {x : TyTup [.sl .Note, .v .int]} (hb : bdTup [.sl .Note, .v .int] x) {r : Bool} : forgedAtO x.1 x.2 = some r → impl_forgedAt.raw x.1 x.2 = some r := pt_ok fun h => by
  obtain ⟨l, i⟩ := x
  obtain ⟨j, hj, hlt⟩ := at_nat h.2
  have hj : i = (j : Int) := hj
  subst hj
  exact impl_forgedAt_raw l j hb.1.1 h.1 hlt
theorem impl_Forged_raw (l : List G.Note) (hl : l.length ≤ maxLen) (h : wt l ≤ LIM) : impl_Forged.raw l = some (forged l) := by
  simp only [impl_Forged.raw, joinK, forged]
  rw [loop_any l.length hl (forgedAt l) (some true) (some false) (fun i k hi => ?_) (fun k => by simp only [lt_end, cond_false])]
  · cases anyN _ _ <;> rfl
  · simp only [lt_len hi, cond_true, forgedAtO]
    rw [pt_bind ⟨h, by omega, by omega⟩, Int.toNat_natCast]
theorem impl_Forged.ok {x : TyTup [.sl .Note]} (hb : bdTup [.sl .Note] x) {r : Bool} : forgedO x = some r → impl_Forged.raw x = some r := pt_ok fun h => impl_Forged_raw x hb.1 h


/-! ### Lucky -/

theorem lucky_raw (l : List G.Note) (h : wt l ≤ LIM) : (joinK (fun (y1 : Bool) => some y1) fun k2 => Option.bind (rolledO l) fun r3 => cond (r3) (k2 true) (Option.bind (forgedO l) fun r4 => cond (r4) (k2 true) (Option.bind (twiceO l) fun r5 => k2 r5))) = some (lucky l) := by
  simp only [joinK, rolledO, forgedO, twiceO, pt_bind h, lucky]
  cases rolled l <;> cases forged l <;> rfl
theorem impl_Lucky.ok {x : TyTup [.sl .Note]} (_ : bdTup [.sl .Note] x) {r : Bool} : luckyO x = some r → impl_Lucky.raw x = some r := pt_ok fun h => lucky_raw x h
/-! ### LuckyAt -/

end Go.D
