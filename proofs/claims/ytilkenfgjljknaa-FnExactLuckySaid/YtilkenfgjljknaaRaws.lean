/-
  What the functions compute, as the plain semantics says it.
-/
import Derived.Test.YtilkenfgjljknaaDefs
namespace Go.D

noncomputable def laws_szByteS.raw (a0 : List UInt8) (a1 : Int) : Option Int :=
  cond (decide ((isub .i64 a1 (a0.length : Int)) < 0))
  (some (-1))
  (some (isub .i64 a1 (a0.length : Int)))

noncomputable def laws_szOp.raw (a0 : G.Op) (a1 : Int) : Option Int :=
  Option.bind (szO a0.B a1) fun r1 =>
  cond (decide (r1 < 0))
  (some (-1))
  (some r1)

noncomputable def laws_szOpS.raw (a0 : List G.Op) (a1 : Int) : Option Int :=
  cond (decide ((isub .i64 a1 (a0.length : Int)) < 0))
  (some (-1))
  (joinK (fun (y1 : Int) =>
  some y1) fun k2 =>
  loopK FU (fun (x3 : Int × Int) k4 =>
  cond (decide (x3.2 < (a0.length : Int)))
  (Option.bind (idxI a0 x3.2) fun e5 =>
  Option.bind (szO e5 x3.1) fun r6 =>
  cond (decide (r6 < 0))
  (some (-1))
  (k4 (r6, (iadd .i64 x3.2 1))))
  (k2 x3.1)) ((isub .i64 a1 (a0.length : Int)), 0))

noncomputable def laws_szEvent.raw (a0 : G.Event) (a1 : Int) : Option Int :=
  Option.bind (szO a0.B a1) fun r1 =>
  cond (decide (r1 < 0))
  (some (-1))
  (Option.bind (szO a0.Ops r1) fun r2 =>
  cond (decide (r2 < 0))
  (some (-1))
  (some r2))

noncomputable def laws_toByteS.raw (a0 : List UInt8) : Option (List UInt8) :=
  cond (decide (0 ≤ (a0.length : Int)) && decide ((a0.length : Int) ≤ (LIM : Int)) && ((a0.length : Int) == (a0.length : Int))) (let x1 : List UInt8 := List.replicate ((a0.length : Int) : Int).toNat (UInt8.ofNat (0 : Int).toNat : UInt8)
  joinK (fun (y2 : (List UInt8)) =>
  some y2) fun k3 =>
  loopK FU (fun (x4 : Int × (List UInt8)) k5 =>
  cond (decide (x4.1 < (a0.length : Int)))
  (Option.bind (idxI a0 x4.1) fun e6 =>
  cond (decide (0 ≤ x4.1) && decide (x4.1 < (x4.2.length : Int))) (Option.bind (x4.2[x4.1.toNat]?) fun e7 =>
  let l8 : List UInt8 := List.set x4.2 x4.1.toNat (UInt8.ofNat (((e6.toNat : Nat) : Int) : Int).toNat)
  k5 ((iadd .i64 x4.1 1), l8)) none)
  (k3 x4.2)) (0, x1)) none

noncomputable def laws_toOp.raw (a0 : G.Op) : Option G.Op :=
  Option.bind (cpy a0.B) fun r1 =>
  some (⟨a0.Kind, a0.I, a0.J, r1⟩ : G.Op)

noncomputable def laws_toOpS.raw (a0 : List G.Op) : Option (List G.Op) :=
  cond (decide (0 ≤ (a0.length : Int)) && decide ((a0.length : Int) ≤ (LIM : Int)) && ((a0.length : Int) == (a0.length : Int))) (let x1 : List G.Op := List.replicate ((a0.length : Int) : Int).toNat ((⟨0, 0, 0, []⟩ : G.Op) : G.Op)
  joinK (fun (y2 : (List G.Op)) =>
  some y2) fun k3 =>
  loopK FU (fun (x4 : Int × (List G.Op)) k5 =>
  cond (decide (x4.1 < (a0.length : Int)))
  (Option.bind (idxI a0 x4.1) fun e6 =>
  Option.bind (cpy e6) fun r7 =>
  cond (decide (0 ≤ x4.1) && decide (x4.1 < (x4.2.length : Int))) (Option.bind (x4.2[x4.1.toNat]?) fun e8 =>
  k5 ((iadd .i64 x4.1 1), (List.set x4.2 x4.1.toNat r7))) none)
  (k3 x4.2)) (0, x1)) none

noncomputable def laws_toEvent.raw (a0 : G.Event) : Option G.Event :=
  Option.bind (cpy a0.B) fun r1 =>
  Option.bind (cpy a0.Ops) fun r2 =>
  some (⟨a0.Kind, a0.I, a0.J, a0.N, r1, r2⟩ : G.Event)

noncomputable def spec_l1In.raw (a0 : Int) (a1 : Int) (a2 : Int) : Option Bool :=
  joinK (fun (y1 : Bool) =>
  some y1) fun k2 =>
  cond (decide (a0 ≥ a1))
  (k2 (decide (a0 ≤ a2)))
  (k2 false)

noncomputable def spec_EventOk.raw (a0 : G.Event) : Option Bool :=
  joinK (fun (y1 : Bool) =>
  some y1) fun k2 =>
  cond ((inR a0.Kind 1 17))
  (cond ((inR a0.I 0 10000))
  (cond ((inR a0.J 0 10000))
  (cond ((inR a0.N 0 10000))
  (cond (decide ((a0.B.length : Int) ≤ 200))
  (k2 (decide ((a0.Ops.length : Int) ≤ 16)))
  (k2 false))
  (k2 false))
  (k2 false))
  (k2 false))
  (k2 false)

noncomputable def impl_within.raw (a0 : Int) (a1 : Int) (a2 : Int) : Option Bool :=
  joinK (fun (y1 : Bool) =>
  some y1) fun k2 =>
  cond (decide (a0 ≥ a1))
  (k2 (decide (a0 ≤ a2)))
  (k2 false)

noncomputable def impl_EventOk.raw (a0 : G.Event) : Option Bool :=
  joinK (fun (y1 : Bool) =>
  some y1) fun k2 =>
  cond ((inR a0.Kind 1 17))
  (cond ((inR a0.I 0 10000))
  (cond ((inR a0.J 0 10000))
  (cond ((inR a0.N 0 10000))
  (cond (decide ((a0.B.length : Int) ≤ 200))
  (k2 (decide ((a0.Ops.length : Int) ≤ 16)))
  (k2 false))
  (k2 false))
  (k2 false))
  (k2 false))
  (k2 false)

noncomputable def laws_eqByteS.raw (a0 : List UInt8) (a1 : List UInt8) : Option Bool :=
  cond ((a0.length : Int) != (a1.length : Int))
  (some false)
  (joinK (fun (y1 : Unit) =>
  some true) fun k2 =>
  loopK FU (fun (x3 : Int) k4 =>
  cond (decide (x3 < (a0.length : Int)))
  (Option.bind (idxI a0 x3) fun e5 =>
  Option.bind (idxI a1 x3) fun e6 =>
  cond (((e5.toNat : Nat) : Int) != ((e6.toNat : Nat) : Int))
  (some false)
  (k4 (iadd .i64 x3 1)))
  (k2 ())) 0)

noncomputable def laws_eqOp.raw (a0 : G.Op) (a1 : G.Op) : Option Bool :=
  cond (a0.Kind != a1.Kind)
  (some false)
  (cond (a0.I != a1.I)
  (some false)
  (cond (a0.J != a1.J)
  (some false)
  (cond (!(eqq a0.B a1.B))
  (some false)
  (some true))))

noncomputable def laws_eqOpS.raw (a0 : List G.Op) (a1 : List G.Op) : Option Bool :=
  cond ((a0.length : Int) != (a1.length : Int))
  (some false)
  (joinK (fun (y1 : Unit) =>
  some true) fun k2 =>
  loopK FU (fun (x3 : Int) k4 =>
  cond (decide (x3 < (a0.length : Int)))
  (Option.bind (idxI a0 x3) fun e5 =>
  Option.bind (idxI a1 x3) fun e6 =>
  cond (!(eqq e5 e6))
  (some false)
  (k4 (iadd .i64 x3 1)))
  (k2 ())) 0)

noncomputable def laws_eqEvent.raw (a0 : G.Event) (a1 : G.Event) : Option Bool :=
  cond (a0.Kind != a1.Kind)
  (some false)
  (cond (a0.I != a1.I)
  (some false)
  (cond (a0.J != a1.J)
  (some false)
  (cond (a0.N != a1.N)
  (some false)
  (cond (!(eqq a0.B a1.B))
  (some false)
  (cond (!(eqq a0.Ops a1.Ops))
  (some false)
  (some true))))))

noncomputable def laws_FnExactEventOk.raw (a0 : G.Event) : Option Bool :=
  Option.bind (szO a0 1048576) fun r1 =>
  cond (decide (r1 < 0))
  (some true)
  (Option.bind (cpy a0) fun r2 =>
  Option.bind (cpy a0) fun r3 =>
  cond (!((eventOk r3) == (eventOk r2)))
  (some false)
  (Option.bind (cpy a0) fun r4 =>
  cond (!(eqq r3 r4))
  (some false)
  (some true)))

noncomputable def laws_szNote.raw (a0 : G.Note) (a1 : Int) : Option Int :=
  Option.bind (szO a0.Cn a1) fun r1 =>
  cond (decide (r1 < 0))
  (some (-1))
  (Option.bind (szO a0.Sn r1) fun r2 =>
  cond (decide (r2 < 0))
  (some (-1))
  (Option.bind (szO a0.Body r2) fun r3 =>
  cond (decide (r3 < 0))
  (some (-1))
  (Option.bind (szO a0.Key r3) fun r4 =>
  cond (decide (r4 < 0))
  (some (-1))
  (some r4))))

noncomputable def laws_szNoteS.raw (a0 : List G.Note) (a1 : Int) : Option Int :=
  cond (decide ((isub .i64 a1 (a0.length : Int)) < 0))
  (some (-1))
  (joinK (fun (y1 : Int) =>
  some y1) fun k2 =>
  loopK FU (fun (x3 : Int × Int) k4 =>
  cond (decide (x3.2 < (a0.length : Int)))
  (Option.bind (idxI a0 x3.2) fun e5 =>
  Option.bind (szO e5 x3.1) fun r6 =>
  cond (decide (r6 < 0))
  (some (-1))
  (k4 (r6, (iadd .i64 x3.2 1))))
  (k2 x3.1)) ((isub .i64 a1 (a0.length : Int)), 0))

noncomputable def laws_toAddr.raw (a0 : G.Addr) : Option G.Addr :=
  some a0

noncomputable def laws_toNote.raw (a0 : G.Note) : Option G.Note :=
  Option.bind (cpy a0.Cn) fun r1 =>
  Option.bind (cpy a0.Sn) fun r2 =>
  Option.bind (cpy a0.Body) fun r3 =>
  Option.bind (cpy a0.Key) fun r4 =>
  Option.bind (cpy a0.A) fun r5 =>
  some (⟨a0.Kind, a0.Id, a0.Role, r1, r2, a0.Epoch, a0.Seq, r3, r4, r5, a0.Now⟩ : G.Note)

noncomputable def laws_toNoteS.raw (a0 : List G.Note) : Option (List G.Note) :=
  cond (decide (0 ≤ (a0.length : Int)) && decide ((a0.length : Int) ≤ (LIM : Int)) && ((a0.length : Int) == (a0.length : Int))) (let x1 : List G.Note := List.replicate ((a0.length : Int) : Int).toNat ((⟨0, 0, 0, [], [], 0, 0, [], [], (⟨0, 0⟩ : G.Addr), 0⟩ : G.Note) : G.Note)
  joinK (fun (y2 : (List G.Note)) =>
  some y2) fun k3 =>
  loopK FU (fun (x4 : Int × (List G.Note)) k5 =>
  cond (decide (x4.1 < (a0.length : Int)))
  (Option.bind (idxI a0 x4.1) fun e6 =>
  Option.bind (cpy e6) fun r7 =>
  cond (decide (0 ≤ x4.1) && decide (x4.1 < (x4.2.length : Int))) (Option.bind (x4.2[x4.1.toNat]?) fun e8 =>
  k5 ((iadd .i64 x4.1 1), (List.set x4.2 x4.1.toNat r7))) none)
  (k3 x4.2)) (0, x1)) none

noncomputable def spec_l1Same.raw (a0 : List UInt8) (a1 : List UInt8) : Option Bool :=
  cond (Nat.ble a0.length LIM) (cond (Nat.ble a1.length LIM) (some (a0 == a1)) none) none

noncomputable def spec_Shown.raw (a0 : List G.Note) (a1 : List UInt8) : Option Bool :=
  joinK (fun (y1 : Unit) =>
  some false) fun k2 =>
  loopK FU (fun (x3 : Int) k4 =>
  cond (decide (x3 < (a0.length : Int)))
  (joinK (fun (y5 : Bool) =>
  cond (y5)
  (some true)
  (k4 (iadd .i64 x3 1))) fun k6 =>
  Option.bind (idxI a0 x3) fun e7 =>
  cond (e7.Kind == 13)
  (Option.bind (idxI a0 x3) fun e8 =>
  Option.bind (sameO e8.Sn a1) fun r9 =>
  k6 r9)
  (k6 false))
  (k2 ())) 0

noncomputable def bytes_Equal.raw (a0 : List UInt8) (a1 : List UInt8) : Option Bool :=
  cond (Nat.ble a0.length LIM) (cond (Nat.ble a1.length LIM) (some (a0 == a1)) none) none

noncomputable def impl_Shown.raw (a0 : List G.Note) (a1 : List UInt8) : Option Bool :=
  joinK (fun (y1 : Unit) =>
  some false) fun k2 =>
  loopK FU (fun (x3 : Int) k4 =>
  cond (decide (x3 < (a0.length : Int)))
  (Option.bind (idxI a0 x3) fun e5 =>
  joinK (fun (y6 : Bool) =>
  cond (y6)
  (some true)
  (k4 (iadd .i64 x3 1))) fun k7 =>
  cond (e5.Kind == 13)
  (Option.bind (sameO e5.Sn a1) fun r8 =>
  k7 r8)
  (k7 false))
  (k2 ())) 0

noncomputable def laws_eqAddr.raw (a0 : G.Addr) (a1 : G.Addr) : Option Bool :=
  cond (a0.Host != a1.Host)
  (some false)
  (cond (a0.Port != a1.Port)
  (some false)
  (some true))

noncomputable def laws_eqNote.raw (a0 : G.Note) (a1 : G.Note) : Option Bool :=
  cond (a0.Kind != a1.Kind)
  (some false)
  (cond (a0.Id != a1.Id)
  (some false)
  (cond (a0.Role != a1.Role)
  (some false)
  (cond (!(eqq a0.Cn a1.Cn))
  (some false)
  (cond (!(eqq a0.Sn a1.Sn))
  (some false)
  (cond (a0.Epoch != a1.Epoch)
  (some false)
  (cond (a0.Seq != a1.Seq)
  (some false)
  (cond (!(eqq a0.Body a1.Body))
  (some false)
  (cond (!(eqq a0.Key a1.Key))
  (some false)
  (cond (!(eqq a0.A a1.A))
  (some false)
  (cond (a0.Now != a1.Now)
  (some false)
  (some true)))))))))))

noncomputable def laws_eqNoteS.raw (a0 : List G.Note) (a1 : List G.Note) : Option Bool :=
  cond ((a0.length : Int) != (a1.length : Int))
  (some false)
  (joinK (fun (y1 : Unit) =>
  some true) fun k2 =>
  loopK FU (fun (x3 : Int) k4 =>
  cond (decide (x3 < (a0.length : Int)))
  (Option.bind (idxI a0 x3) fun e5 =>
  Option.bind (idxI a1 x3) fun e6 =>
  cond (!(eqq e5 e6))
  (some false)
  (k4 (iadd .i64 x3 1)))
  (k2 ())) 0)

noncomputable def laws_FnExactShown.raw (a0 : List G.Note) (a1 : List UInt8) : Option Bool :=
  cond (decide ((a1.length : Int) > 1048576))
  (some true)
  (Option.bind (szO a0 1048576) fun r1 =>
  cond (decide (r1 < 0))
  (some true)
  (Option.bind (cpy a0) fun r2 =>
  Option.bind (cpy a1) fun r3 =>
  Option.bind (shownO r2 r3) fun r4 =>
  Option.bind (cpy a0) fun r5 =>
  Option.bind (cpy a1) fun r6 =>
  Option.bind (shownO r5 r6) fun r7 =>
  cond (!(r7 == r4))
  (some false)
  (Option.bind (cpy a0) fun r8 =>
  cond (!(eqq r5 r8))
  (some false)
  (Option.bind (cpy a1) fun r9 =>
  cond (!(eqq r6 r9))
  (some false)
  (some true)))))

noncomputable def spec_Rolled.raw (a0 : List G.Note) : Option Bool :=
  joinK (fun (y1 : Unit) =>
  some false) fun k2 =>
  loopK FU (fun (x3 : Int) k4 =>
  cond (decide (x3 < (a0.length : Int)))
  (joinK (fun (y5 : Unit) =>
  k4 (iadd .i64 x3 1)) fun k6 =>
  loopK FU (fun (x7 : Int) k8 =>
  joinK (fun (y9 : Bool) =>
  cond (y9)
  (joinK (fun (y12 : Bool) =>
  cond (y12)
  (some true)
  (k8 (iadd .i64 x7 1))) fun k13 =>
  Option.bind (idxI a0 x7) fun e14 =>
  cond (e14.Kind == 14)
  (Option.bind (idxI a0 x7) fun e15 =>
  Option.bind (idxI a0 x3) fun e16 =>
  Option.bind (sameO e15.Body e16.Body) fun r17 =>
  k13 r17)
  (k13 false))
  (k6 ())) fun k10 =>
  cond (decide (x7 < x3))
  (Option.bind (idxI a0 x3) fun e11 =>
  k10 (e11.Kind == 14))
  (k10 false)) 0)
  (k2 ())) 0

noncomputable def impl_rolledAt.raw (a0 : List G.Note) (a1 : Int) : Option Bool :=
  cond (decide (0 ≤ (0 : Int)) && decide ((0 : Int) ≤ a1) && decide (a1 ≤ (a0.length : Int))) (let l1 : List G.Note := List.take ((a1 - 0).toNat) (List.drop 0 a0)
  joinK (fun (y2 : Unit) =>
  some false) fun k3 =>
  loopK FU (fun (x4 : Int) k5 =>
  cond (decide (x4 < (l1.length : Int)))
  (Option.bind (idxI l1 x4) fun e6 =>
  joinK (fun (y7 : Bool) =>
  cond (y7)
  (some true)
  (k5 (iadd .i64 x4 1))) fun k8 =>
  Option.bind (idxI a0 a1) fun e9 =>
  cond (e9.Kind == 14)
  (cond (e6.Kind == 14)
  (Option.bind (idxI a0 a1) fun e10 =>
  Option.bind (sameO e6.Body e10.Body) fun r11 =>
  k8 r11)
  (k8 false))
  (k8 false))
  (k3 ())) 0) none

noncomputable def impl_Rolled.raw (a0 : List G.Note) : Option Bool :=
  joinK (fun (y1 : Unit) =>
  some false) fun k2 =>
  loopK FU (fun (x3 : Int) k4 =>
  cond (decide (x3 < (a0.length : Int)))
  (Option.bind (rolledAtO a0 x3) fun r5 =>
  cond (r5)
  (some true)
  (k4 (iadd .i64 x3 1)))
  (k2 ())) 0

noncomputable def laws_FnExactRolled.raw (a0 : List G.Note) : Option Bool :=
  Option.bind (szO a0 1048576) fun r1 =>
  cond (decide (r1 < 0))
  (some true)
  (Option.bind (cpy a0) fun r2 =>
  Option.bind (rolledO r2) fun r3 =>
  Option.bind (cpy a0) fun r4 =>
  Option.bind (rolledO r4) fun r5 =>
  cond (!(r5 == r3))
  (some false)
  (Option.bind (cpy a0) fun r6 =>
  cond (!(eqq r4 r6))
  (some false)
  (some true)))

noncomputable def spec_l27Up.raw (a0 : G.Note) : Option Bool :=
  joinK (fun (y1 : Bool) =>
  some y1) fun k2 =>
  cond (a0.Kind == 3)
  (k2 true)
  (k2 (a0.Kind == 4))

noncomputable def spec_l27Key.raw (a0 : G.Note) : Option Bool :=
  joinK (fun (y1 : Bool) =>
  some y1) fun k2 =>
  cond ((isUp a0))
  (k2 true)
  (k2 (a0.Kind == 10))

noncomputable def spec_KeyTwice.raw (a0 : List G.Note) : Option Bool :=
  joinK (fun (y1 : Unit) =>
  some false) fun k2 =>
  loopK FU (fun (x3 : Int) k4 =>
  cond (decide (x3 < (a0.length : Int)))
  (joinK (fun (y5 : Unit) =>
  k4 (iadd .i64 x3 1)) fun k6 =>
  loopK FU (fun (x7 : Int) k8 =>
  cond (decide (x7 < x3))
  (joinK (fun (y9 : Unit) =>
  k8 (iadd .i64 x7 1)) fun k10 =>
  Option.bind (idxI a0 x3) fun e11 =>
  Option.bind (idxI a0 x7) fun e12 =>
  Option.bind (sameO e11.Key e12.Key) fun r13 =>
  cond (!r13)
  (k10 ())
  (joinK (fun (y14 : Bool) =>
  cond (y14)
  (some true)
  (joinK (fun (y23 : Bool) =>
  cond (y23)
  (some true)
  (joinK (fun (y30 : Bool) =>
  cond (y30)
  (some true)
  (k10 ())) fun k31 =>
  Option.bind (idxI a0 x3) fun e32 =>
  cond (e32.Kind == 12)
  (Option.bind (idxI a0 x7) fun e33 =>
  k31 (e33.Kind == 12))
  (k31 false))) fun k24 =>
  Option.bind (idxI a0 x3) fun e25 =>
  cond ((isUp e25))
  (Option.bind (idxI a0 x7) fun e26 =>
  cond ((isUp e26))
  (Option.bind (idxI a0 x3) fun e27 =>
  Option.bind (idxI a0 x7) fun e28 =>
  Option.bind (sameO e27.Cn e28.Cn) fun r29 =>
  k24 (!r29))
  (k24 false))
  (k24 false))) fun k15 =>
  Option.bind (idxI a0 x3) fun e16 =>
  cond ((isKey e16))
  (Option.bind (idxI a0 x7) fun e17 =>
  cond ((isKey e17))
  (Option.bind (idxI a0 x3) fun e18 =>
  Option.bind (idxI a0 x7) fun e19 =>
  Option.bind (sameO e18.Sn e19.Sn) fun r20 =>
  cond (!r20)
  (k15 true)
  (Option.bind (idxI a0 x3) fun e21 =>
  Option.bind (idxI a0 x7) fun e22 =>
  k15 (e21.Epoch != e22.Epoch)))
  (k15 false))
  (k15 false)))
  (k6 ())) 0)
  (k2 ())) 0

noncomputable def impl_keysDiffer.raw (a0 : G.Note) (a1 : G.Note) : Option Bool :=
  joinK (fun (y1 : Bool × Bool) =>
  joinK (fun (y3 : Bool) =>
  cond (y3)
  (some true)
  (joinK (fun (y6 : Bool) =>
  cond (y6)
  (joinK (fun (y8 : Bool) =>
  some y8) fun k9 =>
  Option.bind (sameO a0.Sn a1.Sn) fun r10 =>
  cond (!r10)
  (k9 true)
  (k9 (a0.Epoch != a1.Epoch)))
  (joinK (fun (y11 : Bool) =>
  some y11) fun k12 =>
  cond (a0.Kind == 12)
  (k12 (a1.Kind == 12))
  (k12 false))) fun k7 =>
  cond (y1.1)
  (cond (y1.2)
  (k7 true)
  (k7 (a1.Kind == 10)))
  (cond (a0.Kind == 10)
  (cond (y1.2)
  (k7 true)
  (k7 (a1.Kind == 10)))
  (k7 false)))) fun k4 =>
  cond (y1.1)
  (cond (y1.2)
  (Option.bind (sameO a0.Cn a1.Cn) fun r5 =>
  k4 (!r5))
  (k4 false))
  (k4 false)) fun k2 =>
  cond (a0.Kind == 3)
  (cond (a1.Kind == 3)
  (k2 (true, true))
  (k2 (true, (a1.Kind == 4))))
  (cond (a1.Kind == 3)
  (k2 ((a0.Kind == 4), true))
  (k2 ((a0.Kind == 4), (a1.Kind == 4))))

noncomputable def impl_keyTwiceAt.raw (a0 : List G.Note) (a1 : Int) : Option Bool :=
  cond (decide (0 ≤ (0 : Int)) && decide ((0 : Int) ≤ a1) && decide (a1 ≤ (a0.length : Int))) (let l1 : List G.Note := List.take ((a1 - 0).toNat) (List.drop 0 a0)
  joinK (fun (y2 : Unit) =>
  some false) fun k3 =>
  loopK FU (fun (x4 : Int) k5 =>
  cond (decide (x4 < (l1.length : Int)))
  (Option.bind (idxI l1 x4) fun e6 =>
  joinK (fun (y7 : Bool) =>
  cond (y7)
  (some true)
  (k5 (iadd .i64 x4 1))) fun k8 =>
  Option.bind (idxI a0 a1) fun e9 =>
  Option.bind (sameO e6.Key e9.Key) fun r10 =>
  cond (r10)
  (Option.bind (idxI a0 a1) fun e11 =>
  Option.bind (differO e6 e11) fun r12 =>
  k8 r12)
  (k8 false))
  (k3 ())) 0) none

noncomputable def impl_KeyTwice.raw (a0 : List G.Note) : Option Bool :=
  joinK (fun (y1 : Unit) =>
  some false) fun k2 =>
  loopK FU (fun (x3 : Int) k4 =>
  cond (decide (x3 < (a0.length : Int)))
  (Option.bind (twiceAtO a0 x3) fun r5 =>
  cond (r5)
  (some true)
  (k4 (iadd .i64 x3 1)))
  (k2 ())) 0

noncomputable def laws_FnExactKeyTwice.raw (a0 : List G.Note) : Option Bool :=
  Option.bind (szO a0 1048576) fun r1 =>
  cond (decide (r1 < 0))
  (some true)
  (Option.bind (cpy a0) fun r2 =>
  Option.bind (twiceO r2) fun r3 =>
  Option.bind (cpy a0) fun r4 =>
  Option.bind (twiceO r4) fun r5 =>
  cond (!(r5 == r3))
  (some false)
  (Option.bind (cpy a0) fun r6 =>
  cond (!(eqq r4 r6))
  (some false)
  (some true)))

noncomputable def spec_Forged.raw (a0 : List G.Note) : Option Bool :=
  joinK (fun (y1 : Unit) =>
  some false) fun k2 =>
  loopK FU (fun (x3 : Int) k4 =>
  cond (decide (x3 < (a0.length : Int)))
  (joinK (fun (y5 : Unit) =>
  k4 (iadd .i64 x3 1)) fun k6 =>
  joinK (fun (y7 : Bool) =>
  cond (y7)
  (k6 ())
  (joinK (fun (y13 : Bool) =>
  cond (!y13)
  (some true)
  (k6 ())) fun k14 =>
  loopK FU (fun (x15 : Bool × Int) k16 =>
  joinK (fun (y17 : Bool) =>
  cond (y17)
  (joinK (fun (y19 : Bool) =>
  k16 (y19, (iadd .i64 x15.2 1))) fun k20 =>
  Option.bind (idxI a0 x15.2) fun e21 =>
  cond (e21.Kind == 15)
  (Option.bind (idxI a0 x15.2) fun e22 =>
  Option.bind (idxI a0 x3) fun e23 =>
  Option.bind (sameO e22.Key e23.Key) fun r24 =>
  cond (r24)
  (Option.bind (idxI a0 x15.2) fun e25 =>
  Option.bind (idxI a0 x3) fun e26 =>
  Option.bind (sameO e25.Body e26.Body) fun r27 =>
  k20 r27)
  (k20 false))
  (k20 false))
  (k14 x15.1)) fun k18 =>
  cond (decide (x15.2 < x3))
  (k18 (!x15.1))
  (k18 false)) (false, 0))) fun k8 =>
  Option.bind (idxI a0 x3) fun e9 =>
  cond (e9.Kind != 16)
  (k8 true)
  (cond (decide (0 ≤ (0 : Int)) && decide ((0 : Int) ≤ x3) && decide (x3 ≤ (a0.length : Int))) (let l10 : List G.Note := List.take ((x3 - 0).toNat) (List.drop 0 a0)
  Option.bind (idxI a0 x3) fun e11 =>
  Option.bind (shownO l10 e11.Sn) fun r12 =>
  k8 r12) none))
  (k2 ())) 0

noncomputable def impl_forgedAt.raw (a0 : List G.Note) (a1 : Int) : Option Bool :=
  joinK (fun (y1 : Bool) =>
  cond (y1)
  (some false)
  (cond (decide (0 ≤ (0 : Int)) && decide ((0 : Int) ≤ a1) && decide (a1 ≤ (a0.length : Int))) (let l7 : List G.Note := List.take ((a1 - 0).toNat) (List.drop 0 a0)
  joinK (fun (y8 : Unit) =>
  some true) fun k9 =>
  loopK FU (fun (x10 : Int) k11 =>
  cond (decide (x10 < (l7.length : Int)))
  (Option.bind (idxI l7 x10) fun e12 =>
  joinK (fun (y13 : Bool) =>
  cond (y13)
  (some false)
  (k11 (iadd .i64 x10 1))) fun k14 =>
  cond (e12.Kind == 15)
  (Option.bind (idxI a0 a1) fun e15 =>
  Option.bind (sameO e12.Key e15.Key) fun r16 =>
  cond (r16)
  (Option.bind (idxI a0 a1) fun e17 =>
  Option.bind (sameO e12.Body e17.Body) fun r18 =>
  k14 r18)
  (k14 false))
  (k14 false))
  (k9 ())) 0) none)) fun k2 =>
  Option.bind (idxI a0 a1) fun e3 =>
  cond (e3.Kind != 16)
  (k2 true)
  (cond (decide (0 ≤ (0 : Int)) && decide ((0 : Int) ≤ a1) && decide (a1 ≤ (a0.length : Int))) (let l4 : List G.Note := List.take ((a1 - 0).toNat) (List.drop 0 a0)
  Option.bind (idxI a0 a1) fun e5 =>
  Option.bind (shownO l4 e5.Sn) fun r6 =>
  k2 r6) none)

noncomputable def impl_Forged.raw (a0 : List G.Note) : Option Bool :=
  joinK (fun (y1 : Unit) =>
  some false) fun k2 =>
  loopK FU (fun (x3 : Int) k4 =>
  cond (decide (x3 < (a0.length : Int)))
  (Option.bind (forgedAtO a0 x3) fun r5 =>
  cond (r5)
  (some true)
  (k4 (iadd .i64 x3 1)))
  (k2 ())) 0

noncomputable def laws_FnExactForged.raw (a0 : List G.Note) : Option Bool :=
  Option.bind (szO a0 1048576) fun r1 =>
  cond (decide (r1 < 0))
  (some true)
  (Option.bind (cpy a0) fun r2 =>
  Option.bind (forgedO r2) fun r3 =>
  Option.bind (cpy a0) fun r4 =>
  Option.bind (forgedO r4) fun r5 =>
  cond (!(r5 == r3))
  (some false)
  (Option.bind (cpy a0) fun r6 =>
  cond (!(eqq r4 r6))
  (some false)
  (some true)))

noncomputable def spec_Lucky.raw (a0 : List G.Note) : Option Bool :=
  joinK (fun (y1 : Bool) =>
  some y1) fun k2 =>
  Option.bind (rolledO a0) fun r3 =>
  cond (r3)
  (k2 true)
  (Option.bind (forgedO a0) fun r4 =>
  cond (r4)
  (k2 true)
  (Option.bind (twiceO a0) fun r5 =>
  k2 r5))

noncomputable def spec_LuckyAt.raw (a0 : List G.Note) : Option Int :=
  Option.bind (luckyO a0) fun r1 =>
  cond (!r1)
  (some (-1))
  (joinK (fun (y2 : Unit) =>
  some (a0.length : Int)) fun k3 =>
  loopK FU (fun (x4 : Int) k5 =>
  cond (decide (x4 < (a0.length : Int)))
  (cond (decide (0 ≤ (0 : Int)) && decide ((0 : Int) ≤ x4) && decide (x4 ≤ (a0.length : Int))) (let l6 : List G.Note := List.take ((x4 - 0).toNat) (List.drop 0 a0)
  Option.bind (luckyO l6) fun r7 =>
  cond (r7)
  (some x4)
  (k5 (iadd .i64 x4 1))) none)
  (k3 ())) 0)

noncomputable def impl_LuckyAt.raw (a0 : List G.Note) : Option Int :=
  joinK (fun (y1 : Unit) =>
  some (-1)) fun k2 =>
  loopK FU (fun (x3 : Int) k4 =>
  cond (decide (x3 < (a0.length : Int)))
  (joinK (fun (y5 : Bool) =>
  cond (y5)
  (some (iadd .i64 x3 1))
  (k4 (iadd .i64 x3 1))) fun k6 =>
  Option.bind (rolledAtO a0 x3) fun r7 =>
  cond (r7)
  (k6 true)
  (Option.bind (forgedAtO a0 x3) fun r8 =>
  cond (r8)
  (k6 true)
  (Option.bind (twiceAtO a0 x3) fun r9 =>
  k6 r9)))
  (k2 ())) 0

noncomputable def laws_FnExactLuckyAt.raw (a0 : List G.Note) : Option Bool :=
  Option.bind (szO a0 1048576) fun r1 =>
  cond (decide (r1 < 0))
  (some true)
  (Option.bind (cpy a0) fun r2 =>
  Option.bind (luckyAtO r2) fun r3 =>
  Option.bind (cpy a0) fun r4 =>
  Option.bind (luckyAtO r4) fun r5 =>
  cond (r5 != r3)
  (some false)
  (Option.bind (cpy a0) fun r6 =>
  cond (!(eqq r4 r6))
  (some false)
  (some true)))

noncomputable def impl_Lucky.raw (a0 : List G.Note) : Option Bool :=
  joinK (fun (y1 : Bool) =>
  some y1) fun k2 =>
  Option.bind (rolledO a0) fun r3 =>
  cond (r3)
  (k2 true)
  (Option.bind (forgedO a0) fun r4 =>
  cond (r4)
  (k2 true)
  (Option.bind (twiceO a0) fun r5 =>
  k2 r5))

noncomputable def laws_FnExactLucky.raw (a0 : List G.Note) : Option Bool :=
  Option.bind (szO a0 1048576) fun r1 =>
  cond (decide (r1 < 0))
  (some true)
  (Option.bind (cpy a0) fun r2 =>
  Option.bind (luckyO r2) fun r3 =>
  Option.bind (cpy a0) fun r4 =>
  Option.bind (luckyO r4) fun r5 =>
  cond (!(r5 == r3))
  (some false)
  (Option.bind (cpy a0) fun r6 =>
  cond (!(eqq r4 r6))
  (some false)
  (some true)))

end Go.D
