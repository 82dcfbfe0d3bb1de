/-
  What the functions compute, as the plain semantics says it.
-/
import Derived.Test.YtjbdhhdfmfaheaaDefs
namespace Go.D

noncomputable def spec_StName.raw (a0 : Int) : Option (List UInt8) :=
  cond (a0 == 0)
  (some [105, 100, 108, 101])
  (cond (a0 == 1)
  (some [105, 110, 105, 116])
  (cond (a0 == 2)
  (some [102, 105, 110, 105, 115, 104])
  (cond (a0 == 3)
  (some [117, 112])
  (some []))))

noncomputable def impl_within.raw (a0 : Int) (a1 : Int) (a2 : Int) : Option Bool :=
  joinK (fun (y1 : Bool) =>
  some y1) fun k2 =>
  cond (decide (a0 ≥ a1))
  (k2 (decide (a0 ≤ a2)))
  (k2 false)

noncomputable def impl_StName.raw (a0 : Int) : Option (List UInt8) :=
  cond (!(inR a0 0 3))
  (some [])
  (let x1 : List (List UInt8) := [[105, 100, 108, 101], [105, 110, 105, 116], [102, 105, 110, 105, 115, 104], [117, 112]]
  cond (decide (0 ≤ a0) && decide (a0 < (x1.length : Int))) (Option.bind (x1[a0.toNat]?) fun e2 =>
  some e2) none)

noncomputable def laws_FnExactStName.raw (a0 : Int) : Option Bool :=
  cond (!((stName a0) == (stName a0)))
  (some false)
  (some true)

noncomputable def spec_l1In.raw (a0 : Int) (a1 : Int) (a2 : Int) : Option Bool :=
  joinK (fun (y1 : Bool) =>
  some y1) fun k2 =>
  cond (decide (a0 ≥ a1))
  (k2 (decide (a0 ≤ a2)))
  (k2 false)

noncomputable def spec_Near.raw (a0 : Int) : Option G.Addr :=
  cond (!(inR a0 0 255))
  (some (⟨0, 0⟩ : G.Addr))
  (some (⟨iadd .i64 167772160 a0, iadd .i64 7000 a0⟩ : G.Addr))

noncomputable def spec_Hub.raw  : Option G.Addr :=
  let r1 : G.Addr := near 0
  some r1

noncomputable def impl_Near.raw (a0 : Int) : Option G.Addr :=
  cond (!(inR a0 0 255))
  (some (⟨0, 0⟩ : G.Addr))
  (some (⟨iadd .i64 167772160 a0, iadd .i64 7000 a0⟩ : G.Addr))

noncomputable def impl_Hub.raw  : Option G.Addr :=
  let r1 : G.Addr := near 0
  some r1

noncomputable def laws_eqAddr.raw (a0 : G.Addr) (a1 : G.Addr) : Option Bool :=
  cond (a0.Host != a1.Host)
  (some false)
  (cond (a0.Port != a1.Port)
  (some false)
  (some true))

noncomputable def laws_FnExactHub.raw  : Option Bool :=
  let r1 : G.Addr := hub
  let r2 : G.Addr := hub
  cond (!(eqq r2 r1))
  (some false)
  (some true)

noncomputable def laws_szCreditS.raw (a0 : List G.Credit) (a1 : Int) : Option Int :=
  cond (decide ((isub .i64 a1 (a0.length : Int)) < 0))
  (some (-1))
  (some (isub .i64 a1 (a0.length : Int)))

noncomputable def laws_toAddr.raw (a0 : G.Addr) : Option G.Addr :=
  some a0

noncomputable def laws_toCredit.raw (a0 : G.Credit) : Option G.Credit :=
  let r1 : G.Addr := same a0.A
  some (⟨r1, a0.Got, a0.Sent⟩ : G.Credit)

noncomputable def laws_toCreditS.raw (a0 : List G.Credit) : Option (List G.Credit) :=
  cond (decide (0 ≤ (a0.length : Int)) && decide ((a0.length : Int) ≤ (LIM : Int)) && ((a0.length : Int) == (a0.length : Int))) (let x1 : List G.Credit := List.replicate ((a0.length : Int) : Int).toNat ((⟨(⟨0, 0⟩ : G.Addr), 0, 0⟩ : G.Credit) : G.Credit)
  joinK (fun (y2 : (List G.Credit)) =>
  some y2) fun k3 =>
  loopK FU (fun (x4 : Int × (List G.Credit)) k5 =>
  cond (decide (x4.1 < (a0.length : Int)))
  (Option.bind (idxI a0 x4.1) fun e6 =>
  let r7 : G.Credit := same e6
  cond (decide (0 ≤ x4.1) && decide (x4.1 < (x4.2.length : Int))) (Option.bind (x4.2[x4.1.toNat]?) fun e8 =>
  k5 ((iadd .i64 x4.1 1), (List.set x4.2 x4.1.toNat r7))) none)
  (k3 x4.2)) (0, x1)) none

noncomputable def spec_AddrOk.raw (a0 : G.Addr) : Option Bool :=
  joinK (fun (y1 : Bool) =>
  some y1) fun k2 =>
  cond ((inR a0.Host 0 4294967295))
  (k2 (inR a0.Port 0 65535))
  (k2 false)

noncomputable def spec_CreditsOk.raw (a0 : List G.Credit) : Option Bool :=
  cond (decide ((a0.length : Int) > 8))
  (some false)
  (joinK (fun (y1 : Unit) =>
  some true) fun k2 =>
  loopK FU (fun (x3 : Int) k4 =>
  cond (decide (x3 < (a0.length : Int)))
  (joinK (fun (y5 : Bool) =>
  cond (y5)
  (some false)
  (joinK (fun (y12 : Unit) =>
  k4 (iadd .i64 x3 1)) fun k13 =>
  loopK FU (fun (x14 : Int) k15 =>
  cond (decide (x14 < x3))
  (Option.bind (idxI a0 x14) fun e16 =>
  Option.bind (idxI a0 x3) fun e17 =>
  let x18 : Bool := cond (e16.A.Host == e17.A.Host) (cond (e16.A.Port == e17.A.Port) (true) false) false
  cond (x18)
  (some false)
  (k15 (iadd .i64 x14 1)))
  (k13 ())) 0)) fun k6 =>
  Option.bind (idxI a0 x3) fun e7 =>
  cond (!(addrOk e7.A))
  (k6 true)
  (Option.bind (idxI a0 x3) fun e8 =>
  cond (!(inR e8.Got 0 1000000))
  (k6 true)
  (Option.bind (idxI a0 x3) fun e9 =>
  Option.bind (idxI a0 x3) fun e10 =>
  let r11 : Bool := inR e9.Sent 0 (imul .i64 3 e10.Got)
  k6 (!r11))))
  (k2 ())) 0)

noncomputable def spec_l17At.raw (a0 : List G.Credit) (a1 : G.Addr) : Option Int :=
  joinK (fun (y1 : Unit) =>
  some (-1)) fun k2 =>
  loopK FU (fun (x3 : Int) k4 =>
  cond (decide (x3 < (a0.length : Int)))
  (Option.bind (idxI a0 x3) fun e5 =>
  let x6 : Bool := cond (e5.A.Host == a1.Host) (cond (e5.A.Port == a1.Port) (true) false) false
  cond (x6)
  (some x3)
  (k4 (iadd .i64 x3 1)))
  (k2 ())) 0

noncomputable def spec_CreditFor.raw (a0 : List G.Credit) (a1 : G.Addr) : Option Bool :=
  cond (!(creditsOk a0))
  (some false)
  (cond (decide ((cAt a0 a1) < 0))
  (some (decide ((a0.length : Int) ≤ 6)))
  (Option.bind (idxI a0 (cAt a0 a1)) fun e1 =>
  some (decide (e1.Got ≤ 999000))))

noncomputable def impl_AddrOk.raw (a0 : G.Addr) : Option Bool :=
  joinK (fun (y1 : Bool) =>
  some y1) fun k2 =>
  cond ((inR a0.Host 0 4294967295))
  (k2 (inR a0.Port 0 65535))
  (k2 false)

noncomputable def impl_creditAt.raw (a0 : List G.Credit) (a1 : G.Addr) : Option Int :=
  joinK (fun (y1 : Unit) =>
  some (-1)) fun k2 =>
  loopK FU (fun (x3 : Int) k4 =>
  cond (decide (x3 < (a0.length : Int)))
  (Option.bind (idxI a0 x3) fun e5 =>
  let x6 : Bool := cond (e5.A.Host == a1.Host) (cond (e5.A.Port == a1.Port) (true) false) false
  cond (x6)
  (some x3)
  (k4 (iadd .i64 x3 1)))
  (k2 ())) 0

noncomputable def impl_CreditsOk.raw (a0 : List G.Credit) : Option Bool :=
  cond (decide ((a0.length : Int) > 8))
  (some false)
  (joinK (fun (y1 : Unit) =>
  some true) fun k2 =>
  loopK FU (fun (x3 : Int) k4 =>
  cond (decide (x3 < (a0.length : Int)))
  (Option.bind (idxI a0 x3) fun e5 =>
  joinK (fun (y6 : Bool) =>
  cond (y6)
  (some false)
  (k4 (iadd .i64 x3 1))) fun k7 =>
  cond (!(addrOk e5.A))
  (k7 true)
  (cond (!(inR e5.Got 0 1000000))
  (k7 true)
  (let r8 : Bool := inR e5.Sent 0 (imul .i64 3 e5.Got)
  cond (!r8)
  (k7 true)
  (k7 (decide ((cAt a0 e5.A) < x3))))))
  (k2 ())) 0)

noncomputable def impl_CreditFor.raw (a0 : List G.Credit) (a1 : G.Addr) : Option Bool :=
  cond (!(creditsOk a0))
  (some false)
  (cond (decide ((cAt a0 a1) < 0))
  (some (decide ((a0.length : Int) ≤ 6)))
  (Option.bind (idxI a0 (cAt a0 a1)) fun e1 =>
  some (decide (e1.Got ≤ 999000))))

noncomputable def laws_eqCredit.raw (a0 : G.Credit) (a1 : G.Credit) : Option Bool :=
  cond (!(eqq a0.A a1.A))
  (some false)
  (cond (a0.Got != a1.Got)
  (some false)
  (cond (a0.Sent != a1.Sent)
  (some false)
  (some true)))

noncomputable def laws_eqCreditS.raw (a0 : List G.Credit) (a1 : List G.Credit) : Option Bool :=
  cond ((a0.length : Int) != (a1.length : Int))
  (some false)
  (joinK (fun (y1 : Unit) =>
  some true) fun k2 =>
  loopK FU (fun (x3 : Int) k4 =>
  cond (decide (x3 < (a0.length : Int)))
  (Option.bind (idxI a0 x3) fun e5 =>
  Option.bind (idxI a1 x3) fun e6 =>
  cond (!(eqq e5 e6))
  (some false)
  (k4 (iadd .i64 x3 1)))
  (k2 ())) 0)

noncomputable def laws_FnExactCreditFor.raw (a0 : List G.Credit) (a1 : G.Addr) : Option Bool :=
  cond (decide ((szList a0 1048576) < 0))
  (some true)
  (Option.bind (small a0) fun r1 =>
  let r2 : G.Addr := same a1
  Option.bind (small a0) fun r3 =>
  let r4 : G.Addr := same a1
  cond (!((creditFor r3 r4) == (creditFor r1 r2)))
  (some false)
  (Option.bind (small a0) fun r5 =>
  cond (!(eqq r3 r5))
  (some false)
  (some true)))

end Go.D
